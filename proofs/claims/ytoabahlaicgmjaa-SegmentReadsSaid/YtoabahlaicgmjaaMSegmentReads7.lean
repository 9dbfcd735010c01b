-- Texts of this claim joined by merge.py, a program of its author; what this claim does not reach is left out.
import Derived.Test.YtoabahlaicgmjaaMSegmentReads6
section
namespace Go.Proofs.Ytoabahlaicgmjaa.X
open Go.Proofs.Ytoabahlaicgmjaa.XW
open Go.RowKit Go.Proofs.YtoabahlaicgmjaaW.PrintWords Go.Proofs.YtoabahlaicgmjaaW.PrintLast Go.Proofs.YtoabahlaicgmjaaW.PrintMore
attribute [local go_sem] max2_int min2_int max_two min_two max_three min_three max_four min_four   -- for this text's walks alone
set_option linter.unusedVariables false
set_option linter.unusedSimpArgs false

/-! ### midrangelaw04_SegmentReads: function 7 -/
mutual
def midrangelaw04_SegmentReads.j0 : Nat → Bool → List (S56) → Int → Int → Int → Int → ByteArray → Option (Bool)
  | 0, _, _, _, _, _, _, _ => none
  | k + 1, x24, x520000, x520001, x521000, x521001, x521002, x521003 => if x24 = true then (some true) else ((midrangeref04_Own.f x520000 x520001).bind fun bt523 => ((segment_Written.f k bt523.1 bt523.2 x521000 x521001 x521003).bind fun bt527 => (if bt527.2.2 = 0 then ((midrangeref04_Own.f bt527.1 bt527.2.1).bind fun bt533 => ((segment_ReadAt.f k bt533.1 bt533.2 x521000 x521001 (x521003.size : Int)).bind fun bt537 => (if bt537.2 = 0 then (midrangelaw04_SegmentReads.j1 k (bt537.1.toList != x521003.toList) x520000 x520001 x521000 x521001 x521002 x521003 bt527.1 bt527.2.1) else (midrangelaw04_SegmentReads.j1 k true x520000 x520001 x521000 x521001 x521002 x521003 bt527.1 bt527.2.1)))) else (some true))))
def midrangelaw04_SegmentReads.j1 : Nat → Bool → List (S56) → Int → Int → Int → Int → ByteArray → List (S56) → Int → Option (Bool)
  | 0, _, _, _, _, _, _, _, _, _ => none
  | k + 1, x55, x520000, x520001, x521000, x521001, x521002, x521003, x533000, x533001 => if x55 = true then (some false) else (midrangelaw04_SegmentReads.l0 k 0 x520000 x520001 x521000 x521001 x521002 x521003 x533000 x533001)
def midrangelaw04_SegmentReads.l0 : Nat → Int → List (S56) → Int → Int → Int → Int → ByteArray → List (S56) → Int → Option (Bool)
  | 0, _, _, _, _, _, _, _, _, _ => none
  | k + 1, x9, x520000, x520001, x521000, x521001, x521002, x521003, x533000, x533001 => if x9 < (x520000.length : Int) then (if 0 ≤ x9 then (midrangelaw04_SegmentReads.l1 k x9 0 x520000 x520001 x521000 x521001 x521002 x521003 x533000 x533001 ((rd_T56 x520000 x9).f0) ((rd_T56 x520000 x9).f1)) else (none)) else (some true)
def midrangelaw04_SegmentReads.l1 : Nat → Int → Int → List (S56) → Int → Int → Int → Int → ByteArray → List (S56) → Int → Int → ByteArray → Option (Bool)
  | 0, _, _, _, _, _, _, _, _, _, _, _, _ => none
  | k + 1, x9, x11, x520000, x520001, x521000, x521001, x521002, x521003, x533000, x533001, x541000, x541001 => if x11 < (x541001.size : Int) then (if x541000 = x521000 then ((midrangebase_Within.f x11 x521001 (wrap64 ((wrap64 (x521001 + (x521003.size : Int))) - 1))).bind fun t541 => (midrangelaw04_SegmentReads.j4 k x9 x11 t541 x520000 x520001 x521000 x521001 x521002 x521003 x533000 x533001 x541000 x541001)) else (midrangelaw04_SegmentReads.j4 k x9 x11 false x520000 x520001 x521000 x521001 x521002 x521003 x533000 x533001 x541000 x541001)) else (midrangelaw04_SegmentReads.l0 k (wrap64 (x9 + 1)) x520000 x520001 x521000 x521001 x521002 x521003 x533000 x533001)
def midrangelaw04_SegmentReads.j4 : Nat → Int → Int → Bool → List (S56) → Int → Int → Int → Int → ByteArray → List (S56) → Int → Int → ByteArray → Option (Bool)
  | 0, _, _, _, _, _, _, _, _, _, _, _, _, _ => none
  | k + 1, x9, x11, x95, x520000, x520001, x521000, x521001, x521002, x521003, x533000, x533001, x541000, x541001 => if x95 = true then (midrangelaw04_SegmentReads.l1 k x9 (wrap64 (x11 + 1)) x520000 x520001 x521000 x521001 x521002 x521003 x533000 x533001 x541000 x541001) else ((midrangeref04_Own.f x533000 x533001).bind fun bt542 => ((segment_ReadAt.f k bt542.1 bt542.2 x541000 x11 1).bind fun bt546 => (if bt546.2 = 0 then (if 0 ≤ x11 then (if x11 ≤ (wrap64 (x11 + 1)) then (if (wrap64 (x11 + 1)) ≤ (x541001.size : Int) then (midrangelaw04_SegmentReads.j5 k x9 x11 (bt546.1.toList != (x541001.extract (x11 : Int).toNat ((wrap64 (x11 + 1)) : Int).toNat).toList) x520000 x520001 x521000 x521001 x521002 x521003 x533000 x533001 x541000 x541001) else (none)) else (none)) else (none)) else (midrangelaw04_SegmentReads.j5 k x9 x11 true x520000 x520001 x521000 x521001 x521002 x521003 x533000 x533001 x541000 x541001))))
def midrangelaw04_SegmentReads.j5 : Nat → Int → Int → Bool → List (S56) → Int → Int → Int → Int → ByteArray → List (S56) → Int → Int → ByteArray → Option (Bool)
  | 0, _, _, _, _, _, _, _, _, _, _, _, _, _ => none
  | k + 1, x9, x11, x117, x520000, x520001, x521000, x521001, x521002, x521003, x533000, x533001, x541000, x541001 => if x117 = true then (some false) else (midrangelaw04_SegmentReads.l1 k x9 (wrap64 (x11 + 1)) x520000 x520001 x521000 x521001 x521002 x521003 x533000 x533001 x541000 x541001)
end
def midrangelaw04_SegmentReads.f (k : Nat) (l0_0 : List (S56)) (a0_1 : Int) (a1_0 : Int) (a1_1 : Int) (a1_2 : Int) (a1_3 : ByteArray) : Option (Bool) := (midrangelaw04_awake.f k).bind fun t521 => (if t521 = true then ((midrangelaw04_few.f k l0_0 a0_1).bind fun t522 => (if t522 = true then (midrangelaw04_SegmentReads.j0 k (decide ((a1_3.size : Int) > 400)) l0_0 a0_1 a1_0 a1_1 a1_2 a1_3) else (midrangelaw04_SegmentReads.j0 k true l0_0 a0_1 a1_0 a1_1 a1_2 a1_3))) else (some false))
def midrangelaw04_SegmentReads.T5 : Bool × List (List Nat × List Nat) := (true, [([], []), ([0], [0]), ([], []), ([2], [2]), ([], []), ([4], [4]), ([1, 3, 5, 1], [1, 3, 5]), ([6], [6]), ([7], [7]), ([7], [7]), ([], []), ([10, 8, 6, 0, 1, 2, 3, 4, 5, 6, 7, 8, 10], [8, 10]), ([9, 11, 0, 1, 2, 3, 4, 5, 6, 7, 8, 9, 10, 11], [9])])
def midrangelaw04_SegmentReads.B5 : List Nat := [0, 1, 0, 4, 0, 16, 63, 127, 255, 255, 0, 1535, 4095]
theorem midrangelaw04_SegmentReads.tab5 : rtab .any (opsOf Try.f7 5) = midrangelaw04_SegmentReads.T5 := by kernel_rfl
theorem midrangelaw04_SegmentReads.bits5 : waitsOk midrangelaw04_SegmentReads.T5.2 midrangelaw04_SegmentReads.B5 = true := by kernel_rfl
def midrangelaw04_SegmentReads.T8 : Bool × List (List Nat × List Nat) := (true, [([], []), ([0], [0]), ([], []), ([2], [2]), ([], []), ([4], [4]), ([5], [5]), ([1, 3, 6, 1], [1, 3, 6]), ([7], [7]), ([8], [8]), ([8], [8]), ([9, 7, 0, 1, 2, 3, 4, 5, 6, 7, 8, 9], [9]), ([10, 11, 0, 1, 2, 3, 4, 5, 6, 7, 8, 9, 10, 11], [10])])
def midrangelaw04_SegmentReads.B8 : List Nat := [0, 1, 0, 4, 0, 16, 48, 127, 255, 511, 511, 1023, 4095]
theorem midrangelaw04_SegmentReads.tab8 : rtab .any (opsOf Try.f7 8) = midrangelaw04_SegmentReads.T8 := by kernel_rfl
theorem midrangelaw04_SegmentReads.bits8 : waitsOk midrangelaw04_SegmentReads.T8.2 midrangelaw04_SegmentReads.B8 = true := by kernel_rfl
def midrangelaw04_SegmentReads.T19 : Bool × List (List Nat × List Nat) := (true, [([], []), ([0], [0]), ([], []), ([2], [2]), ([], []), ([3, 4], [3, 4]), ([1, 5, 1], [1, 5]), ([6], [6]), ([7], [7]), ([7], [7]), ([8, 6, 0, 1, 2, 3, 4, 5, 6, 7, 8], [8]), ([9, 10, 0, 1, 2, 3, 4, 5, 6, 7, 8, 9, 10], [9])])
def midrangelaw04_SegmentReads.B19 : List Nat := [0, 1, 0, 4, 0, 28, 63, 127, 255, 255, 511, 2047]
theorem midrangelaw04_SegmentReads.tab19 : rtab .any (opsOf Try.f7 19) = midrangelaw04_SegmentReads.T19 := by kernel_rfl
theorem midrangelaw04_SegmentReads.bits19 : waitsOk midrangelaw04_SegmentReads.T19.2 midrangelaw04_SegmentReads.B19 = true := by kernel_rfl
set_option maxHeartbeats 8000000 in
set_option maxRecDepth 100000 in
theorem midrangelaw04_SegmentReads.calls (k : Nat) (A0_0 : Option Addr) (c0_0 : Nat) (l0_0 : List (S56)) (a0_1 : Int) (a1_0 : Int) (a1_1 : Int) (a1_2 : Int) (a1_3 : ByteArray) (r : Bool) (w : World) (hr0_0 : Kd.C k56 w A0_0 l0_0.length l0_0) (hc0_0 : l0_0.length ≤ c0_0) (h : midrangelaw04_SegmentReads.f k l0_0 a0_1 a1_0 a1_1 a1_2 a1_3 = some r) :
    Calls Try.prog 7 #[.agg #[.slice A0_0 l0_0.length c0_0, .int .i64 a0_1], .agg #[.int .i64 a1_0, .int .i64 a1_1, .int .i64 a1_2, .string a1_3]] w fun e w' => e = .returned (.bool r) ∧ Below w.heap.size w w' := by
  have hu24 := Try.underlying24
  have hu48 := Try.underlying48
  have hu46 := Try.underlying46
  have hu56 := Try.underlying56
  have HR0_0 := Aside0.mk hr0_0
  have HC0_0 := Aside0.mk hc0_0
  clear hr0_0 hc0_0
  have HB := Aside0.mk (Below.refl w.heap.size w)
  have H : ((midrangelaw04_awake.f k).bind fun t521 => (if t521 = true then ((midrangelaw04_few.f k l0_0 a0_1).bind fun t522 => (if t522 = true then (midrangelaw04_SegmentReads.j0 k (decide ((a1_3.size : Int) > 400)) l0_0 a0_1 a1_0 a1_1 a1_2 a1_3) else (midrangelaw04_SegmentReads.j0 k true l0_0 a0_1 a1_0 a1_1 a1_2 a1_3))) else (some false))) = some r := h
  clear h
  replace H := Option.bind_eq_some_iff.mp H
  obtain ⟨t521, A30, H⟩ := H
  replace H : (if t521 = true then ((midrangelaw04_few.f k l0_0 a0_1).bind fun t522 => (if t522 = true then (midrangelaw04_SegmentReads.j0 k (decide ((a1_3.size : Int) > 400)) l0_0 a0_1 a1_0 a1_1 a1_2 a1_3) else (midrangelaw04_SegmentReads.j0 k true l0_0 a0_1 a1_0 a1_1 a1_2 a1_3))) else (some false)) = some r := H
  have A3 := Aside0.mk A30
  clear A30
  by_cases c4 : t521 = true
  · subst c4
    have H1 : ((midrangelaw04_few.f k l0_0 a0_1).bind fun t522 => (if t522 = true then (midrangelaw04_SegmentReads.j0 k (decide ((a1_3.size : Int) > 400)) l0_0 a0_1 a1_0 a1_1 a1_2 a1_3) else (midrangelaw04_SegmentReads.j0 k true l0_0 a0_1 a1_0 a1_1 a1_2 a1_3))) = some r := by rw [if_pos rfl] at H; exact H
    clear H
    have H := H1
    clear H1
    have HC5 := Aside0.mk H
    clear H
    go_enter Try.func7, Try.ntmps7
    go_upto_region 3 with (first | ((with_reducible refine gate_dst (N := 2) rfl ?_); (try (refine gate_guard (by rfl) ?_; dsimp only)); refine box_event ?hg (N := 2) ?hd (cs := #[.slice A0_0 l0_0.length c0_0, .int .i64 a0_1]) (t := 24) ?hr ?_; (case hd => rfl); (case hg => rfl); (case hr => first | (go_simp; done) | (go_simp; rfl)); intro gb519 hg w6 hbox hb; have n0_ := Aside0.mk (below_step (by repeat (first | (with_reducible first | exact HB.out | apply below_alloc | apply pw_below_drewN | apply below_drew1) | exact HB.out)) hb); have n1_ := Aside0.mk (hbox); have n2_ := Aside0.mk ((by rw [hg]; exact (below_size (by repeat (first | (with_reducible first | exact HB.out | apply below_alloc | apply pw_below_drewN | apply below_drew1) | exact HB.out))) : w.heap.size ≤ gb519)); have n3_ := Aside0.mk ((by rw [hg]; exact (below_size (by repeat (first | (with_reducible first | exact HB.out | apply below_alloc | apply pw_below_drewN | apply below_drew1) | exact HB.out))) : w.heap.size ≤ gb519)); clear HB; have HB := n0_; have BK519 := n1_; have GW519 := n2_; have GE519 := n3_; clear n0_ n1_ n2_ n3_; clear hb hbox hg) | ((with_reducible refine gate_dst (N := 3) rfl ?_); (try (refine gate_guard (by rfl) ?_; dsimp only)); refine box_event ?hg (N := 3) ?hd (cs := #[.int .i64 a1_0, .int .i64 a1_1, .int .i64 a1_2, .string a1_3]) (t := 48) ?hr ?_; (case hd => rfl); (case hg => rfl); (case hr => first | (go_simp; done) | (go_simp; rfl)); intro gb520 hg w7 hbox hb; have n0_ := Aside0.mk (blk_below (g := gb519) (o := .cells #[.slice A0_0 l0_0.length c0_0, .int .i64 a0_1] 24 (0, 0)) (by (with_reducible repeat (first | refine blk_drewN ?_ _ | refine blk_drew ?_ | refine blk_alloc ?_ _)); exact BK519.out) hb); have n1_ := Aside0.mk (below_step (by repeat (first | (with_reducible first | exact HB.out | apply below_alloc | apply pw_below_drewN | apply below_drew1 | refine below_set ?_ GE519.out) | exact HB.out)) hb); have n2_ := Aside0.mk (hbox); have n3_ := Aside0.mk ((by rw [hg]; exact (below_size (by repeat (first | (with_reducible first | exact HB.out | apply below_alloc | apply pw_below_drewN | apply below_drew1 | refine below_set ?_ GE519.out) | exact HB.out))) : w.heap.size ≤ gb520)); have n4_ := Aside0.mk ((by rw [hg]; exact (below_size (by repeat (first | (with_reducible first | exact HB.out | apply below_alloc | apply pw_below_drewN | apply below_drew1 | refine below_set ?_ GE519.out) | exact HB.out))) : w.heap.size ≤ gb520)); have n5_ := Aside0.mk ((by rw [hg]; exact Nat.ne_of_lt (blk_lt (g := gb519) (o := .cells #[.slice A0_0 l0_0.length c0_0, .int .i64 a0_1] 24 (0, 0)) (by (with_reducible repeat (first | refine blk_drewN ?_ _ | refine blk_drew ?_ | refine blk_alloc ?_ _)); exact BK519.out)) : gb519 ≠ gb520)); have n6_ := Aside0.mk ((by rw [hg]; exact Nat.ne_of_gt (blk_lt (g := gb519) (o := .cells #[.slice A0_0 l0_0.length c0_0, .int .i64 a0_1] 24 (0, 0)) (by (with_reducible repeat (first | refine blk_drewN ?_ _ | refine blk_drew ?_ | refine blk_alloc ?_ _)); exact BK519.out)) : gb520 ≠ gb519)); clear BK519; clear HB; have BK519 := n0_; have HB := n1_; have BK520 := n2_; have GW520 := n3_; have GE520 := n4_; have NB519_520 := n5_; have NB520_519 := n6_; clear n0_ n1_ n2_ n3_ n4_ n5_ n6_; clear hb hbox hg) | ((with_reducible refine gate_callee (f := 10) rfl ?_); refine goesL_ (some 14) rfl rfl Try.func10 (by kernel_rfl) rfl #[] rfl (by (try simp only [List.map_toArray, List.map_cons, List.map_nil]); first | done | rfl | (simp only [List.length_drop, List.length_take]; rfl)) ?_; (with_reducible refine (midrangelaw04_awake.calls k  true _ A3.out).mono ?_); rintro e w8 ⟨rfl, hb⟩; refine ⟨_, rfl, ?_⟩; have n0_ := Aside0.mk (blk_below (g := gb519) (o := .cells #[.slice A0_0 l0_0.length c0_0, .int .i64 a0_1] 24 (0, 0)) (by (with_reducible repeat (first | refine blk_drewN ?_ _ | refine blk_drew ?_ | refine blk_alloc ?_ _)); exact BK519.out) hb); have n1_ := Aside0.mk (blk_below (g := gb520) (o := .cells #[.int .i64 a1_0, .int .i64 a1_1, .int .i64 a1_2, .string a1_3] 48 (0, 0)) (by (with_reducible repeat (first | refine blk_drewN ?_ _ | refine blk_drew ?_ | refine blk_alloc ?_ _)); exact BK520.out) hb); have n2_ := Aside0.mk (below_step (by repeat (first | (with_reducible first | exact HB.out | apply below_alloc | apply pw_below_drewN | apply below_drew1 | refine below_set ?_ GE519.out | refine below_set ?_ GE520.out) | exact HB.out)) hb); clear BK519; clear BK520; clear HB; have BK519 := n0_; have BK520 := n1_; have HB := n2_; clear n0_ n1_ n2_; (try clear hb); (try clear hb2); (try clear hk); (try clear hi)))
    (try simp only [Act.put, List.setIfInBounds_toArray, List.set_cons_zero, List.set_cons_succ])
    go_cut [24] (fun v24 wc => ∃ (kq : Nat) (x24_4 : Bool), v24 = .bool x24_4 ∧ Aside0 (midrangelaw04_SegmentReads.j0 kq x24_4 l0_0 a0_1 a1_0 a1_1 a1_2 a1_3 = some r) ∧ Aside0 (kq ≤ k) ∧ Aside0 (wc.heap[gb519]? = some (.cells #[(.slice A0_0 l0_0.length c0_0), .int .i64 a0_1] 24 (0, 0))) ∧ Aside0 (wc.heap[gb520]? = some (.cells #[.int .i64 a1_0, .int .i64 a1_1, .int .i64 a1_2, .string a1_3] 48 (0, 0))) ∧ Aside0 (Below w.heap.size w wc))
    case first =>
      have H := HC5.out
      clear HC5
      replace H := Option.bind_eq_some_iff.mp H
      obtain ⟨t522, A90, H⟩ := H
      replace H : (if t522 = true then (midrangelaw04_SegmentReads.j0 k (decide ((a1_3.size : Int) > 400)) l0_0 a0_1 a1_0 a1_1 a1_2 a1_3) else (midrangelaw04_SegmentReads.j0 k true l0_0 a0_1 a1_0 a1_1 a1_2 a1_3)) = some r := H
      have A9 := Aside0.mk A90
      clear A90
      by_cases c10 : t522 = true
      · subst c10
        have H1 : (midrangelaw04_SegmentReads.j0 k (decide ((a1_3.size : Int) > 400)) l0_0 a0_1 a1_0 a1_1 a1_2 a1_3) = some r := by rw [if_pos rfl] at H; exact H
        clear H
        have H := H1
        clear H1
        have H' := Aside0.mk H
        clear H
        have hnb11 := NB519_520.out
        have hnc11 := NB520_519.out
        have hcz12_0 : w8.cell? ⟨gb519, 0, none⟩ = some (.slice A0_0 l0_0.length c0_0) := (blk_cell BK519.out 0).trans rfl
        have hcz12_1 : w8.cell? ⟨gb519, 1, none⟩ = some (.int .i64 a0_1) := (blk_cell BK519.out 1).trans rfl
        have hfz12_0 := blk_frozen BK519.out 0
        have hfz12_1 := blk_frozen BK519.out 1
        go_wp2_with (first | ((with_reducible refine gate_callee (f := 11) rfl ?_); refine goesL_ (some 17) rfl rfl Try.func11 (by kernel_rfl) rfl #[.agg #[.slice A0_0 l0_0.length c0_0, .int .i64 a0_1]] rfl (by (try simp only [List.map_toArray, List.map_cons, List.map_nil]); first | done | rfl | (simp only [List.length_drop, List.length_take]; rfl)) ?_; (with_reducible refine (midrangelaw04_few.calls k _ _ l0_0 a0_1 true _ ?side1 ?side2 A9.out).mono ?_); (case side1 => repeat (first | exact (Kd.C_below HR0_0.out HB.out) | (with_reducible refine Kd.C_alloc ?_ _) | (with_reducible refine Kd.C_drewN ?_ _) | (with_reducible refine Kd.C_drew ?_))); (case side2 => exact HC0_0.out); rintro e w13 ⟨rfl, hb⟩; refine ⟨_, rfl, ?_⟩; have n0_ := Aside0.mk (blk_below (g := gb519) (o := .cells #[.slice A0_0 l0_0.length c0_0, .int .i64 a0_1] 24 (0, 0)) (by (with_reducible repeat (first | refine blk_drewN ?_ _ | refine blk_drew ?_ | refine blk_alloc ?_ _)); exact BK519.out) hb); have n1_ := Aside0.mk (blk_below (g := gb520) (o := .cells #[.int .i64 a1_0, .int .i64 a1_1, .int .i64 a1_2, .string a1_3] 48 (0, 0)) (by (with_reducible repeat (first | refine blk_drewN ?_ _ | refine blk_drew ?_ | refine blk_alloc ?_ _)); exact BK520.out) hb); have n2_ := Aside0.mk (below_step (by repeat (first | (with_reducible first | exact HB.out | apply below_alloc | apply pw_below_drewN | apply below_drew1 | refine below_set ?_ GE519.out | refine below_set ?_ GE520.out) | exact HB.out)) hb); clear BK519; clear BK520; clear HB; have BK519 := n0_; have BK520 := n1_; have HB := n2_; clear n0_ n1_ n2_; (try clear hb); (try clear hb2); (try clear hk); (try clear hi); have hcz14_0 : w13.cell? ⟨gb520, 0, none⟩ = some (.int .i64 a1_0) := (blk_cell BK520.out 0).trans rfl; have hcz14_1 : w13.cell? ⟨gb520, 1, none⟩ = some (.int .i64 a1_1) := (blk_cell BK520.out 1).trans rfl; have hcz14_2 : w13.cell? ⟨gb520, 2, none⟩ = some (.int .i64 a1_2) := (blk_cell BK520.out 2).trans rfl; have hcz14_3 : w13.cell? ⟨gb520, 3, none⟩ = some (.string a1_3) := (blk_cell BK520.out 3).trans rfl; have hfz14_0 := blk_frozen BK520.out 0; have hfz14_1 := blk_frozen BK520.out 1; have hfz14_2 := blk_frozen BK520.out 2; have hfz14_3 := blk_frozen BK520.out 3))
        go_meet
        case rel => exact ⟨_, (decide ((a1_3.size : Int) > 400)), (by first | rfl | (simp; done) | (simp [*]; done)), H', ⟨by first | omega | exact Nat.le_refl _⟩, ⟨by (with_reducible repeat (first | refine blk_drewN ?_ _ | refine blk_drew ?_ | refine blk_alloc ?_ _)); exact BK519.out⟩, ⟨by (with_reducible repeat (first | refine blk_drewN ?_ _ | refine blk_drew ?_ | refine blk_alloc ?_ _)); exact BK520.out⟩, ⟨by repeat (first | (with_reducible first | exact HB.out | apply below_alloc | apply pw_below_drewN | apply below_drew1 | refine below_set ?_ GE519.out | refine below_set ?_ GE520.out) | exact HB.out)⟩⟩
      · replace c10 := Bool.eq_false_iff.mpr c10
        subst c10
        have H1 : (midrangelaw04_SegmentReads.j0 k true l0_0 a0_1 a1_0 a1_1 a1_2 a1_3) = some r := by rw [if_neg (show ¬ (false = true) by decide)] at H; exact H
        clear H
        have H := H1
        clear H1
        have H' := Aside0.mk H
        clear H
        have hnb15 := NB519_520.out
        have hnc15 := NB520_519.out
        have hcz16_0 : w8.cell? ⟨gb519, 0, none⟩ = some (.slice A0_0 l0_0.length c0_0) := (blk_cell BK519.out 0).trans rfl
        have hcz16_1 : w8.cell? ⟨gb519, 1, none⟩ = some (.int .i64 a0_1) := (blk_cell BK519.out 1).trans rfl
        have hfz16_0 := blk_frozen BK519.out 0
        have hfz16_1 := blk_frozen BK519.out 1
        go_wp2_with (first | ((with_reducible refine gate_callee (f := 11) rfl ?_); refine goesL_ (some 17) rfl rfl Try.func11 (by kernel_rfl) rfl #[.agg #[.slice A0_0 l0_0.length c0_0, .int .i64 a0_1]] rfl (by (try simp only [List.map_toArray, List.map_cons, List.map_nil]); first | done | rfl | (simp only [List.length_drop, List.length_take]; rfl)) ?_; (with_reducible refine (midrangelaw04_few.calls k _ _ l0_0 a0_1 false _ ?side1 ?side2 A9.out).mono ?_); (case side1 => repeat (first | exact (Kd.C_below HR0_0.out HB.out) | (with_reducible refine Kd.C_alloc ?_ _) | (with_reducible refine Kd.C_drewN ?_ _) | (with_reducible refine Kd.C_drew ?_))); (case side2 => exact HC0_0.out); rintro e w17 ⟨rfl, hb⟩; refine ⟨_, rfl, ?_⟩; have n0_ := Aside0.mk (blk_below (g := gb519) (o := .cells #[.slice A0_0 l0_0.length c0_0, .int .i64 a0_1] 24 (0, 0)) (by (with_reducible repeat (first | refine blk_drewN ?_ _ | refine blk_drew ?_ | refine blk_alloc ?_ _)); exact BK519.out) hb); have n1_ := Aside0.mk (blk_below (g := gb520) (o := .cells #[.int .i64 a1_0, .int .i64 a1_1, .int .i64 a1_2, .string a1_3] 48 (0, 0)) (by (with_reducible repeat (first | refine blk_drewN ?_ _ | refine blk_drew ?_ | refine blk_alloc ?_ _)); exact BK520.out) hb); have n2_ := Aside0.mk (below_step (by repeat (first | (with_reducible first | exact HB.out | apply below_alloc | apply pw_below_drewN | apply below_drew1 | refine below_set ?_ GE519.out | refine below_set ?_ GE520.out) | exact HB.out)) hb); clear BK519; clear BK520; clear HB; have BK519 := n0_; have BK520 := n1_; have HB := n2_; clear n0_ n1_ n2_; (try clear hb); (try clear hb2); (try clear hk); (try clear hi)))
        go_meet
        case rel => exact ⟨_, (true), (by first | rfl | (simp; done) | (simp [*]; done)), H', ⟨by first | omega | exact Nat.le_refl _⟩, ⟨by (with_reducible repeat (first | refine blk_drewN ?_ _ | refine blk_drew ?_ | refine blk_alloc ?_ _)); exact BK519.out⟩, ⟨by (with_reducible repeat (first | refine blk_drewN ?_ _ | refine blk_drew ?_ | refine blk_alloc ?_ _)); exact BK520.out⟩, ⟨by repeat (first | (with_reducible first | exact HB.out | apply below_alloc | apply pw_below_drewN | apply below_drew1 | refine below_set ?_ GE519.out | refine below_set ?_ GE520.out) | exact HB.out)⟩⟩
    case rest =>
      clear HC5
      try clear c1
      try clear p2
      try clear c4
      try clear c7
      try clear c10
      try clear c11
      try clear c15
      try clear hcz12_0
      try clear hcz12_1
      try clear hcz14_0
      try clear hcz14_1
      try clear hcz14_2
      try clear hcz14_3
      try clear hcz16_0
      try clear hcz16_1
      try clear hfz12_0
      try clear hfz12_1
      try clear hfz14_0
      try clear hfz14_1
      try clear hfz14_2
      try clear hfz14_3
      try clear hfz16_0
      try clear hfz16_1
      obtain ⟨kq, x24_4, rfl, HA, HJ4, BK519, BK520, HB⟩ := hcut
      cases kq with
      | zero => exact absurd HA.out (by simp [midrangelaw04_SegmentReads.j0])
      | succ kj4 =>
        have H := HA.out
        clear HA
        simp only [midrangelaw04_SegmentReads.j0] at H
        by_cases c18 : x24_4 = true
        · subst c18
          have H1 : (some true) = some r := by rw [if_pos rfl] at H; exact H
          clear H
          have H := H1
          clear H1
          obtain rfl := Option.some.inj H
          go_wp2
          go_ret
          exact ⟨by first | rfl | (simp [errW_none, errW_some] <;> rfl) | (simp [*, errW_none, errW_some] <;> rfl), by repeat (first | (with_reducible first | exact HB.out | apply below_alloc | apply pw_below_drewN | apply below_drew1 | refine below_set ?_ GE519.out | refine below_set ?_ GE520.out) | exact HB.out)⟩
        · replace c18 := Bool.eq_false_iff.mpr c18
          subst c18
          have H1 : ((midrangeref04_Own.f l0_0 a0_1).bind fun bt523 => ((segment_Written.f kj4 bt523.1 bt523.2 a1_0 a1_1 a1_3).bind fun bt527 => (if bt527.2.2 = 0 then ((midrangeref04_Own.f bt527.1 bt527.2.1).bind fun bt533 => ((segment_ReadAt.f kj4 bt533.1 bt533.2 a1_0 a1_1 (a1_3.size : Int)).bind fun bt537 => (if bt537.2 = 0 then (midrangelaw04_SegmentReads.j1 kj4 (bt537.1.toList != a1_3.toList) l0_0 a0_1 a1_0 a1_1 a1_2 a1_3 bt527.1 bt527.2.1) else (midrangelaw04_SegmentReads.j1 kj4 true l0_0 a0_1 a1_0 a1_1 a1_2 a1_3 bt527.1 bt527.2.1)))) else (some true)))) = some r := by rw [if_neg (show ¬ (false = true) by decide)] at H; exact H
          clear H
          have H := H1
          clear H1
          replace H := Option.bind_eq_some_iff.mp H
          obtain ⟨⟨t523, t526⟩, A190, H⟩ := H
          replace H : ((segment_Written.f kj4 t523 t526 a1_0 a1_1 a1_3).bind fun bt527 => (if bt527.2.2 = 0 then ((midrangeref04_Own.f bt527.1 bt527.2.1).bind fun bt533 => ((segment_ReadAt.f kj4 bt533.1 bt533.2 a1_0 a1_1 (a1_3.size : Int)).bind fun bt537 => (if bt537.2 = 0 then (midrangelaw04_SegmentReads.j1 kj4 (bt537.1.toList != a1_3.toList) l0_0 a0_1 a1_0 a1_1 a1_2 a1_3 bt527.1 bt527.2.1) else (midrangelaw04_SegmentReads.j1 kj4 true l0_0 a0_1 a1_0 a1_1 a1_2 a1_3 bt527.1 bt527.2.1)))) else (some true))) = some r := H
          have A19 := Aside0.mk A190
          clear A190
          replace H := Option.bind_eq_some_iff.mp H
          obtain ⟨⟨t527, t530, t531⟩, A200, H⟩ := H
          replace H : (if t531 = 0 then ((midrangeref04_Own.f t527 t530).bind fun bt533 => ((segment_ReadAt.f kj4 bt533.1 bt533.2 a1_0 a1_1 (a1_3.size : Int)).bind fun bt537 => (if bt537.2 = 0 then (midrangelaw04_SegmentReads.j1 kj4 (bt537.1.toList != a1_3.toList) l0_0 a0_1 a1_0 a1_1 a1_2 a1_3 t527 t530) else (midrangelaw04_SegmentReads.j1 kj4 true l0_0 a0_1 a1_0 a1_1 a1_2 a1_3 t527 t530)))) else (some true)) = some r := H
          have A20 := Aside0.mk A200
          clear A200
          by_cases c21 : t531 = 0
          · rw [if_pos c21] at H
            have c21b0 : (t531 == 0) = true := beq_iff_eq.mpr c21
            have c21b1 : (t531 != 0) = false := bne_eq_false_iff_eq.mpr c21
            clear c21
            replace H := Option.bind_eq_some_iff.mp H
            obtain ⟨⟨t533, t536⟩, A220, H⟩ := H
            replace H : ((segment_ReadAt.f kj4 t533 t536 a1_0 a1_1 (a1_3.size : Int)).bind fun bt537 => (if bt537.2 = 0 then (midrangelaw04_SegmentReads.j1 kj4 (bt537.1.toList != a1_3.toList) l0_0 a0_1 a1_0 a1_1 a1_2 a1_3 t527 t530) else (midrangelaw04_SegmentReads.j1 kj4 true l0_0 a0_1 a1_0 a1_1 a1_2 a1_3 t527 t530))) = some r := H
            have A22 := Aside0.mk A220
            clear A220
            replace H := Option.bind_eq_some_iff.mp H
            obtain ⟨⟨t537, t538⟩, A230, H⟩ := H
            replace H : (if t538 = 0 then (midrangelaw04_SegmentReads.j1 kj4 (t537.toList != a1_3.toList) l0_0 a0_1 a1_0 a1_1 a1_2 a1_3 t527 t530) else (midrangelaw04_SegmentReads.j1 kj4 true l0_0 a0_1 a1_0 a1_1 a1_2 a1_3 t527 t530)) = some r := H
            have A23 := Aside0.mk A230
            clear A230
            have HC24 := Aside0.mk H
            clear H
            try go_wp2
            have n0_ := Aside0.mk (blk_drew BK519.out)
            have n1_ := Aside0.mk (blk_drew BK520.out)
            have n2_ := Aside0.mk (below_drew1 HB.out)
            clear BK519
            clear BK520
            clear HB
            have BK519 := n0_
            have BK520 := n1_
            have HB := n2_
            clear n0_ n1_ n2_
            refine start_ (n := 13) (S := fun w' => w'.cell? ⟨gb519, 0, none⟩ = some (.slice A0_0 l0_0.length c0_0) ∧ w'.cell? ⟨gb519, 1, none⟩ = some (.int .i64 a0_1) ∧ w'.cell? ⟨gb520, 0, none⟩ = some (.int .i64 a1_0) ∧ w'.cell? ⟨gb520, 1, none⟩ = some (.int .i64 a1_1) ∧ w'.cell? ⟨gb520, 2, none⟩ = some (.int .i64 a1_2) ∧ w'.cell? ⟨gb520, 3, none⟩ = some (.string a1_3)) (ds := []) #[false, false, false, false, false, false, false, false, false, false, false, false, false] (by kernel_rfl) rfl rfl ⟨(blk_cell BK519.out 0).trans rfl, (blk_cell BK519.out 1).trans rfl, (blk_cell BK520.out 0).trans rfl, (blk_cell BK520.out 1).trans rfl, (blk_cell BK520.out 2).trans rfl, (blk_cell BK520.out 3).trans rfl⟩ (fun hHeld => ?_); refine with_tabW midrangelaw04_SegmentReads.tab5 midrangelaw04_SegmentReads.bits5 (fun HT_ HW_ => ?_)
            generalize wc.drew = w25 at BK519 BK520 HB hHeld ⊢
            refine pure_ (i := 2) (N := some 28) (v := ?_) (a' := ?_) #[false, false, true, false, false, false, false, false, false, false, false, false, false] rfl rfl (any_of HT_.out (by kernel_rfl)) (fun _ _ _ h => h) (Or.inl ⟨by rfl, ?_⟩) ?_ ?_
            rotate_left
            · intro w'
              go_simp
              with_reducible rfl
            rotate_left
            · simp only [Act.put, List.setIfInBounds_toArray, List.set_cons_zero, List.set_cons_succ, i64_w, i32_w]
              rfl
            refine pure_ (i := 4) (N := some 30) (v := ?_) (a' := ?_) #[false, false, true, false, true, false, false, false, false, false, false, false, false] rfl rfl (any_of HT_.out (by kernel_rfl)) (fun _ _ _ h => h) (Or.inl ⟨by rfl, ?_⟩) ?_ ?_
            rotate_left
            · intro w'
              go_simp
              with_reducible rfl
            rotate_left
            · simp only [Act.put, List.setIfInBounds_toArray, List.set_cons_zero, List.set_cons_succ, i64_w, i32_w]
              rfl
            refine take_ (i := 0) (N := some 26) (v := ?_) (a' := ?_) #[true, false, true, false, true, false, false, false, false, false, false, false, false] rfl rfl (take_ofW HT_.out HW_.out (by kernel_rfl)) (fun _ _ _ h => h) (Or.inl ⟨by rfl, ?_⟩) hHeld ?_ ?_
            rotate_left
            · rintro w' ⟨s0, s1, s2, s3, s4, s5⟩
              go_simp
              with_reducible rfl
            rotate_left
            · simp only [Act.put, List.setIfInBounds_toArray, List.set_cons_zero, List.set_cons_succ, i64_w, i32_w]
              rfl
            refine take_ (i := 3) (N := some 29) (v := ?_) (a' := ?_) #[true, false, true, true, true, false, false, false, false, false, false, false, false] rfl rfl (take_ofW HT_.out HW_.out (by kernel_rfl)) (fun _ _ _ h => h) (Or.inl ⟨by rfl, ?_⟩) hHeld ?_ ?_
            rotate_left
            · rintro w' ⟨s0, s1, s2, s3, s4, s5⟩
              go_simp
              with_reducible rfl
            rotate_left
            · simp only [Act.put, List.setIfInBounds_toArray, List.set_cons_zero, List.set_cons_succ, i64_w, i32_w]
              rfl
            refine take_ (i := 5) (N := some 31) (v := ?_) (a' := ?_) #[true, false, true, true, true, true, false, false, false, false, false, false, false] rfl rfl (take_ofW HT_.out HW_.out (by kernel_rfl)) (fun _ _ _ h => h) (Or.inl ⟨by rfl, ?_⟩) hHeld ?_ ?_
            rotate_left
            · rintro w' ⟨s0, s1, s2, s3, s4, s5⟩
              go_simp
              with_reducible rfl
            rotate_left
            · simp only [Act.put, List.setIfInBounds_toArray, List.set_cons_zero, List.set_cons_succ, i64_w, i32_w]
              rfl
            refine join_ (σ := Value × Value × Nat) 2 #[true, true, true, true, true, true, true, true, true, true, true, false, false] (fun s_ => [(27, .agg #[s_.1, .int .i64 t526]), (32, .tuple #[.agg #[s_.2.1, .int .i64 t530], .int .i64 t531]), (5, .pointer (some ⟨s_.2.2, 0, none⟩)), (25, .tuple #[.agg #[s_.2.1, .int .i64 t530], .int .i64 t531]), (33, .agg #[s_.2.1, .int .i64 t530]), (34, .int .i64 t531)]) (fun s_ w' => (w'.cell? ⟨gb519, 0, none⟩ = some (.slice A0_0 l0_0.length c0_0) ∧ w'.cell? ⟨gb519, 1, none⟩ = some (.int .i64 a0_1) ∧ w'.cell? ⟨gb520, 0, none⟩ = some (.int .i64 a1_0) ∧ w'.cell? ⟨gb520, 1, none⟩ = some (.int .i64 a1_1) ∧ w'.cell? ⟨gb520, 2, none⟩ = some (.int .i64 a1_2) ∧ w'.cell? ⟨gb520, 3, none⟩ = some (.string a1_3)) ∧ (Kd.R k56 56 w' w.heap.size (fun k_ => some k_ ≠ (s_.2.1 : Value).ownBlock) s_.1 t523) ∧ (Kd.R k56 56 w' w.heap.size (fun k_ => some k_ ≠ (s_.1 : Value).ownBlock) s_.2.1 t527) ∧ (w'.heap[gb519]? = some (.cells #[.slice A0_0 l0_0.length c0_0, .int .i64 a0_1] 24 (0, 0))) ∧ (w'.heap[gb520]? = some (.cells #[.int .i64 a1_0, .int .i64 a1_1, .int .i64 a1_2, .string a1_3] 48 (0, 0))) ∧ (w'.heap[s_.2.2]? = some (.cells #[.slice none 0 0, .int .i64 0] 24 (0, 0))) ∧ (w.heap.size ≤ s_.2.2) ∧ (w.heap.size ≤ s_.2.2) ∧ (gb519 ≠ s_.2.2) ∧ (s_.2.2 ≠ gb519) ∧ (gb520 ≠ s_.2.2) ∧ (s_.2.2 ≠ gb520) ∧ (Below w.heap.size w w')) ?_ ?_
            rotate_left
            · intro hCont
              refine two_ (i := 1) (j := 10) (Ni := some 27) (Nj := some 5) #[true, true, true, true, true, true, false, false, false, false, false, false, false] #[true, false, true, true, true, true, false, false, false, false, true, false, false] rfl rfl rfl rfl (two_of HT_.out (by kernel_rfl)) (by decide) (by decide) (fun K hK => ?_) (fun K hK => ?_)
              · skip
                refine goes_ Try.func13 (by kernel_rfl) rfl #[.agg #[.slice A0_0 l0_0.length c0_0, .int .i64 a0_1]] (by rfl) rfl rfl (by (try simp only [List.map_toArray, List.map_cons, List.map_nil]); first | done | rfl | (simp only [List.length_drop, List.length_take]; rfl)) ?_
                with_reducible refine (midrangeref04_Own.calls _ _ l0_0 a0_1 t523 t526 _ ?side1 ?side2 A19.out).mono ?_
                (case side1 => repeat (first | exact (Kd.C_below HR0_0.out HB.out) | (with_reducible refine Kd.C_alloc ?_ _) | (with_reducible refine Kd.C_drewN ?_ _) | (with_reducible refine Kd.C_drew ?_)))
                (case side2 => exact HC0_0.out)
                rintro e w26 ⟨v524, rfl, ho0, hb⟩
                refine ⟨_, rfl, ?_⟩
                have n0_ := Aside0.mk (Kd.R_lower ho0 (below_size (by repeat (first | (with_reducible first | exact HB.out | apply below_alloc | apply pw_below_drewN | apply below_drew1 | refine below_set ?_ GE519.out | refine below_set ?_ GE520.out) | exact HB.out))))
                have n1_ := Aside0.mk (blk_below (g := gb519) (o := .cells #[.slice A0_0 l0_0.length c0_0, .int .i64 a0_1] 24 (0, 0)) (by (with_reducible repeat (first | refine blk_drewN ?_ _ | refine blk_drew ?_ | refine blk_alloc ?_ _)); exact BK519.out) hb)
                have n2_ := Aside0.mk (blk_below (g := gb520) (o := .cells #[.int .i64 a1_0, .int .i64 a1_1, .int .i64 a1_2, .string a1_3] 48 (0, 0)) (by (with_reducible repeat (first | refine blk_drewN ?_ _ | refine blk_drew ?_ | refine blk_alloc ?_ _)); exact BK520.out) hb)
                have n3_ := Aside0.mk (below_step (by repeat (first | (with_reducible first | exact HB.out | apply below_alloc | apply pw_below_drewN | apply below_drew1 | refine below_set ?_ GE519.out | refine below_set ?_ GE520.out) | exact HB.out)) hb)
                clear BK519
                clear BK520
                clear HB
                have HO525 := n0_
                have BK519 := n1_
                have BK520 := n2_
                have HB := n3_
                clear n0_ n1_ n2_ n3_
                (try clear hb)
                (try clear hb2)
                (try clear hk)
                (try clear hi)
                (try clear ho0)
                obtain ⟨Ao27, co27, eo27⟩ := Kd.R_slice HO525.out
                (first | subst eo27 | (injection eo27 with f1_ f2_ f3_; have f4_ := f1_.symm; have f5_ := f3_.symm; clear f1_ f2_ f3_; subst f4_; subst f5_))
                refine hK.out _ _ ⟨(blk_cell BK519.out 0).trans rfl, (blk_cell BK519.out 1).trans rfl, (blk_cell BK520.out 0).trans rfl, (blk_cell BK520.out 1).trans rfl, (blk_cell BK520.out 2).trans rfl, (blk_cell BK520.out 3).trans rfl⟩ (fun hHeld => ?_)
                clear hK K
                refine norm_ (a' := ?_) ?_ ?_
                rotate_left
                · show Act.put _ (some 27) _ = _
                  simp only [Act.put, List.setIfInBounds_toArray, List.set_cons_zero, List.set_cons_succ, i64_w, i32_w]
                  rfl
                refine two_ (i := 6) (j := 10) (Ni := some 32) (Nj := some 5) #[true, true, true, true, true, true, true, false, false, false, false, false, false] #[true, true, true, true, true, true, false, false, false, false, true, false, false] rfl rfl rfl rfl (two_of HT_.out (by kernel_rfl)) (by decide) (by decide) (fun K hK => ?_) (fun K hK => ?_)
                · skip
                  refine goes_ Try.func27 (by kernel_rfl) rfl #[.agg #[.slice Ao27 t523.length co27, .int .i64 t526], .agg #[.int .i64 a1_0, .int .i64 a1_1], .string a1_3] (by rfl) rfl rfl (by (try simp only [List.map_toArray, List.map_cons, List.map_nil]); first | done | rfl | (simp only [List.length_drop, List.length_take]; rfl)) ?_
                  with_reducible refine (segment_Written.calls kj4 _ _ t523 t526 a1_0 a1_1 a1_3 t527 t530 t531 _ ?side1 ?side2 A20.out).mono ?_
                  (case side1 => repeat (first | exact (Kd.R_reads' HO525.out).2.2 | (with_reducible refine Kd.C_alloc ?_ _) | (with_reducible refine Kd.C_drewN ?_ _) | (with_reducible refine Kd.C_drew ?_)))
                  (case side2 => exact (Kd.R_reads' HO525.out).2.1)
                  rintro e w28 ⟨v528, rfl, ho0, hb⟩
                  refine ⟨_, rfl, ?_⟩
                  have n0_ := Aside0.mk (Kd.R_elder' (by (with_reducible repeat (first | apply Kd.R_alloc | apply Kd.R_drewN | apply Kd.R_drew)); exact HO525.out) (Kd.R_base ho0) hb)
                  have n1_ := Aside0.mk (Kd.R_lower (Kd.R_new' ho0 (Kd.R_lt (by (with_reducible repeat (first | apply Kd.R_alloc | apply Kd.R_drewN | apply Kd.R_drew)); exact HO525.out))) (below_size (by repeat (first | (with_reducible first | exact HB.out | apply below_alloc | apply pw_below_drewN | apply below_drew1 | refine below_set ?_ GE519.out | refine below_set ?_ GE520.out) | exact HB.out))))
                  have n2_ := Aside0.mk (blk_below (g := gb519) (o := .cells #[.slice A0_0 l0_0.length c0_0, .int .i64 a0_1] 24 (0, 0)) (by (with_reducible repeat (first | refine blk_drewN ?_ _ | refine blk_drew ?_ | refine blk_alloc ?_ _)); exact BK519.out) hb)
                  have n3_ := Aside0.mk (blk_below (g := gb520) (o := .cells #[.int .i64 a1_0, .int .i64 a1_1, .int .i64 a1_2, .string a1_3] 48 (0, 0)) (by (with_reducible repeat (first | refine blk_drewN ?_ _ | refine blk_drew ?_ | refine blk_alloc ?_ _)); exact BK520.out) hb)
                  have n4_ := Aside0.mk (below_step (by repeat (first | (with_reducible first | exact HB.out | apply below_alloc | apply pw_below_drewN | apply below_drew1 | refine below_set ?_ GE519.out | refine below_set ?_ GE520.out) | exact HB.out)) hb)
                  clear HO525
                  clear BK519
                  clear BK520
                  clear HB
                  have HO525 := n0_
                  have HO529 := n1_
                  have BK519 := n2_
                  have BK520 := n3_
                  have HB := n4_
                  clear n0_ n1_ n2_ n3_ n4_
                  (try clear hb)
                  (try clear hb2)
                  (try clear hk)
                  (try clear hi)
                  (try clear ho0)
                  refine hK.out _ _ ⟨(blk_cell BK519.out 0).trans rfl, (blk_cell BK519.out 1).trans rfl, (blk_cell BK520.out 0).trans rfl, (blk_cell BK520.out 1).trans rfl, (blk_cell BK520.out 2).trans rfl, (blk_cell BK520.out 3).trans rfl⟩ (fun hHeld => ?_)
                  clear hK K
                  refine norm_ (a' := ?_) ?_ ?_
                  rotate_left
                  · show Act.put _ (some 32) _ = _
                    simp only [Act.put, List.setIfInBounds_toArray, List.set_cons_zero, List.set_cons_succ, i64_w, i32_w]
                    rfl
                  refine pure_ (i := 7) (N := some 25) (v := ?_) (a' := ?_) #[true, true, true, true, true, true, true, true, false, false, false, false, false] rfl rfl (any_of HT_.out (by kernel_rfl)) (fun _ _ _ h => h) (Or.inl ⟨by rfl, ?_⟩) ?_ ?_
                  rotate_left
                  · intro w'
                    go_simp
                    with_reducible rfl
                  rotate_left
                  · simp only [Act.put, List.setIfInBounds_toArray, List.set_cons_zero, List.set_cons_succ, i64_w, i32_w]
                    rfl
                  refine pure_ (i := 8) (N := some 33) (v := ?_) (a' := ?_) #[true, true, true, true, true, true, true, true, true, false, false, false, false] rfl rfl (any_of HT_.out (by kernel_rfl)) (fun _ _ _ h => h) (Or.inl ⟨by rfl, ?_⟩) ?_ ?_
                  rotate_left
                  · intro w'
                    go_simp
                    with_reducible rfl
                  rotate_left
                  · simp only [Act.put, List.setIfInBounds_toArray, List.set_cons_zero, List.set_cons_succ, i64_w, i32_w]
                    rfl
                  refine pure_ (i := 9) (N := some 34) (v := ?_) (a' := ?_) #[true, true, true, true, true, true, true, true, true, true, false, false, false] rfl rfl (any_of HT_.out (by kernel_rfl)) (fun _ _ _ h => h) (Or.inl ⟨by rfl, ?_⟩) ?_ ?_
                  rotate_left
                  · intro w'
                    go_simp
                    with_reducible rfl
                  rotate_left
                  · simp only [Act.put, List.setIfInBounds_toArray, List.set_cons_zero, List.set_cons_succ, i64_w, i32_w]
                    rfl
                  refine one_ (i := 10) (N := some 5) #[true, true, true, true, true, true, true, true, true, true, true, false, false] rfl rfl (one_of HT_.out (by kernel_rfl)) (by decide) (fun K hK => ?_)
                  refine box_step ?hg (N := 5) ?hd (cs := #[.slice none 0 0, .int .i64 0]) (t := 24) ?hr ?_; (case hd => rfl); (case hg => rfl); (case hr => first | (go_simp; done) | (go_simp; rfl))
                  intro gb532 hg w29 hbox hb
                  have n0_ := Aside0.mk (Kd.R_below (by (with_reducible repeat (first | apply Kd.R_alloc | apply Kd.R_drewN | apply Kd.R_drew)); exact HO525.out) hb)
                  have n1_ := Aside0.mk (Kd.R_below (by (with_reducible repeat (first | apply Kd.R_alloc | apply Kd.R_drewN | apply Kd.R_drew)); exact HO529.out) hb)
                  have n2_ := Aside0.mk (blk_below (g := gb519) (o := .cells #[.slice A0_0 l0_0.length c0_0, .int .i64 a0_1] 24 (0, 0)) (by (with_reducible repeat (first | refine blk_drewN ?_ _ | refine blk_drew ?_ | refine blk_alloc ?_ _)); exact BK519.out) hb)
                  have n3_ := Aside0.mk (blk_below (g := gb520) (o := .cells #[.int .i64 a1_0, .int .i64 a1_1, .int .i64 a1_2, .string a1_3] 48 (0, 0)) (by (with_reducible repeat (first | refine blk_drewN ?_ _ | refine blk_drew ?_ | refine blk_alloc ?_ _)); exact BK520.out) hb)
                  have n4_ := Aside0.mk (below_step (by repeat (first | (with_reducible first | exact HB.out | apply below_alloc | apply pw_below_drewN | apply below_drew1 | refine below_set ?_ GE519.out | refine below_set ?_ GE520.out) | exact HB.out)) hb)
                  have n5_ := Aside0.mk (hbox)
                  have n6_ := Aside0.mk ((by rw [hg]; exact (below_size (by repeat (first | (with_reducible first | exact HB.out | apply below_alloc | apply pw_below_drewN | apply below_drew1 | refine below_set ?_ GE519.out | refine below_set ?_ GE520.out) | exact HB.out))) : w.heap.size ≤ gb532))
                  have n7_ := Aside0.mk ((by rw [hg]; exact (below_size (by repeat (first | (with_reducible first | exact HB.out | apply below_alloc | apply pw_below_drewN | apply below_drew1 | refine below_set ?_ GE519.out | refine below_set ?_ GE520.out) | exact HB.out))) : w.heap.size ≤ gb532))
                  have n8_ := Aside0.mk ((by rw [hg]; exact Nat.ne_of_lt (blk_lt (g := gb519) (o := .cells #[.slice A0_0 l0_0.length c0_0, .int .i64 a0_1] 24 (0, 0)) (by (with_reducible repeat (first | refine blk_drewN ?_ _ | refine blk_drew ?_ | refine blk_alloc ?_ _)); exact BK519.out)) : gb519 ≠ gb532))
                  have n9_ := Aside0.mk ((by rw [hg]; exact Nat.ne_of_gt (blk_lt (g := gb519) (o := .cells #[.slice A0_0 l0_0.length c0_0, .int .i64 a0_1] 24 (0, 0)) (by (with_reducible repeat (first | refine blk_drewN ?_ _ | refine blk_drew ?_ | refine blk_alloc ?_ _)); exact BK519.out)) : gb532 ≠ gb519))
                  have n10_ := Aside0.mk ((by rw [hg]; exact Nat.ne_of_lt (blk_lt (g := gb520) (o := .cells #[.int .i64 a1_0, .int .i64 a1_1, .int .i64 a1_2, .string a1_3] 48 (0, 0)) (by (with_reducible repeat (first | refine blk_drewN ?_ _ | refine blk_drew ?_ | refine blk_alloc ?_ _)); exact BK520.out)) : gb520 ≠ gb532))
                  have n11_ := Aside0.mk ((by rw [hg]; exact Nat.ne_of_gt (blk_lt (g := gb520) (o := .cells #[.int .i64 a1_0, .int .i64 a1_1, .int .i64 a1_2, .string a1_3] 48 (0, 0)) (by (with_reducible repeat (first | refine blk_drewN ?_ _ | refine blk_drew ?_ | refine blk_alloc ?_ _)); exact BK520.out)) : gb532 ≠ gb520))
                  clear HO525
                  clear HO529
                  clear BK519
                  clear BK520
                  clear HB
                  have HO525 := n0_
                  have HO529 := n1_
                  have BK519 := n2_
                  have BK520 := n3_
                  have HB := n4_
                  have BK532 := n5_
                  have GW532 := n6_
                  have GE532 := n7_
                  have NB519_532 := n8_
                  have NB532_519 := n9_
                  have NB520_532 := n10_
                  have NB532_520 := n11_
                  clear n0_ n1_ n2_ n3_ n4_ n5_ n6_ n7_ n8_ n9_ n10_ n11_
                  clear hb hbox hg
                  refine hK.out _ _ ⟨(blk_cell BK519.out 0).trans rfl, (blk_cell BK519.out 1).trans rfl, (blk_cell BK520.out 0).trans rfl, (blk_cell BK520.out 1).trans rfl, (blk_cell BK520.out 2).trans rfl, (blk_cell BK520.out 3).trans rfl⟩ (fun hHeld => ?_)
                  clear hK K
                  refine norm_ (a' := ?_) ?_ ?_
                  rotate_left
                  · show Act.put _ (some 5) _ = _
                    simp only [Act.put, List.setIfInBounds_toArray, List.set_cons_zero, List.set_cons_succ, i64_w, i32_w]
                    rfl
                  exact norm_ (by simp only [putAll, Act.put, List.setIfInBounds_toArray, List.set_cons_zero, List.set_cons_succ]) (hCont (.slice Ao27 t523.length co27, v528, gb532) _ ⟨hHeld, (by (with_reducible repeat (first | apply Kd.R_alloc | apply Kd.R_drewN | apply Kd.R_drew)); exact Kd.R_mono HO525.out (fun _ hk => hk.2)), (by (with_reducible repeat (first | apply Kd.R_alloc | apply Kd.R_drewN | apply Kd.R_drew)); exact Kd.R_mono HO529.out (fun _ hk => hk.2)), (by (with_reducible repeat (first | refine blk_drewN ?_ _ | refine blk_drew ?_ | refine blk_alloc ?_ _)); exact BK519.out), (by (with_reducible repeat (first | refine blk_drewN ?_ _ | refine blk_drew ?_ | refine blk_alloc ?_ _)); exact BK520.out), (by (with_reducible repeat (first | refine blk_drewN ?_ _ | refine blk_drew ?_ | refine blk_alloc ?_ _)); exact BK532.out), GW532.out, GE532.out, NB519_532.out, NB532_519.out, NB520_532.out, NB532_520.out, (by repeat (first | (with_reducible first | exact HB.out | apply below_alloc | apply pw_below_drewN | apply below_drew1 | refine below_set ?_ GE519.out | refine below_set ?_ GE520.out | refine below_set ?_ GE532.out) | exact HB.out))⟩)
                · skip
                  refine box_step ?hg (N := 5) ?hd (cs := #[.slice none 0 0, .int .i64 0]) (t := 24) ?hr ?_; (case hd => rfl); (case hg => rfl); (case hr => first | (go_simp; done) | (go_simp; rfl))
                  intro gb532 hg w27 hbox hb
                  have n0_ := Aside0.mk (Kd.R_below (by (with_reducible repeat (first | apply Kd.R_alloc | apply Kd.R_drewN | apply Kd.R_drew)); exact HO525.out) hb)
                  have n1_ := Aside0.mk (blk_below (g := gb519) (o := .cells #[.slice A0_0 l0_0.length c0_0, .int .i64 a0_1] 24 (0, 0)) (by (with_reducible repeat (first | refine blk_drewN ?_ _ | refine blk_drew ?_ | refine blk_alloc ?_ _)); exact BK519.out) hb)
                  have n2_ := Aside0.mk (blk_below (g := gb520) (o := .cells #[.int .i64 a1_0, .int .i64 a1_1, .int .i64 a1_2, .string a1_3] 48 (0, 0)) (by (with_reducible repeat (first | refine blk_drewN ?_ _ | refine blk_drew ?_ | refine blk_alloc ?_ _)); exact BK520.out) hb)
                  have n3_ := Aside0.mk (below_step (by repeat (first | (with_reducible first | exact HB.out | apply below_alloc | apply pw_below_drewN | apply below_drew1 | refine below_set ?_ GE519.out | refine below_set ?_ GE520.out) | exact HB.out)) hb)
                  have n4_ := Aside0.mk (hbox)
                  have n5_ := Aside0.mk ((by rw [hg]; exact (below_size (by repeat (first | (with_reducible first | exact HB.out | apply below_alloc | apply pw_below_drewN | apply below_drew1 | refine below_set ?_ GE519.out | refine below_set ?_ GE520.out) | exact HB.out))) : w.heap.size ≤ gb532))
                  have n6_ := Aside0.mk ((by rw [hg]; exact (below_size (by repeat (first | (with_reducible first | exact HB.out | apply below_alloc | apply pw_below_drewN | apply below_drew1 | refine below_set ?_ GE519.out | refine below_set ?_ GE520.out) | exact HB.out))) : w.heap.size ≤ gb532))
                  have n7_ := Aside0.mk ((by rw [hg]; exact Nat.ne_of_lt (blk_lt (g := gb519) (o := .cells #[.slice A0_0 l0_0.length c0_0, .int .i64 a0_1] 24 (0, 0)) (by (with_reducible repeat (first | refine blk_drewN ?_ _ | refine blk_drew ?_ | refine blk_alloc ?_ _)); exact BK519.out)) : gb519 ≠ gb532))
                  have n8_ := Aside0.mk ((by rw [hg]; exact Nat.ne_of_gt (blk_lt (g := gb519) (o := .cells #[.slice A0_0 l0_0.length c0_0, .int .i64 a0_1] 24 (0, 0)) (by (with_reducible repeat (first | refine blk_drewN ?_ _ | refine blk_drew ?_ | refine blk_alloc ?_ _)); exact BK519.out)) : gb532 ≠ gb519))
                  have n9_ := Aside0.mk ((by rw [hg]; exact Nat.ne_of_lt (blk_lt (g := gb520) (o := .cells #[.int .i64 a1_0, .int .i64 a1_1, .int .i64 a1_2, .string a1_3] 48 (0, 0)) (by (with_reducible repeat (first | refine blk_drewN ?_ _ | refine blk_drew ?_ | refine blk_alloc ?_ _)); exact BK520.out)) : gb520 ≠ gb532))
                  have n10_ := Aside0.mk ((by rw [hg]; exact Nat.ne_of_gt (blk_lt (g := gb520) (o := .cells #[.int .i64 a1_0, .int .i64 a1_1, .int .i64 a1_2, .string a1_3] 48 (0, 0)) (by (with_reducible repeat (first | refine blk_drewN ?_ _ | refine blk_drew ?_ | refine blk_alloc ?_ _)); exact BK520.out)) : gb532 ≠ gb520))
                  clear HO525
                  clear BK519
                  clear BK520
                  clear HB
                  have HO525 := n0_
                  have BK519 := n1_
                  have BK520 := n2_
                  have HB := n3_
                  have BK532 := n4_
                  have GW532 := n5_
                  have GE532 := n6_
                  have NB519_532 := n7_
                  have NB532_519 := n8_
                  have NB520_532 := n9_
                  have NB532_520 := n10_
                  clear n0_ n1_ n2_ n3_ n4_ n5_ n6_ n7_ n8_ n9_ n10_
                  clear hb hbox hg
                  obtain ⟨Ao28, co28, eo28⟩ := Kd.R_slice HO525.out
                  (first | subst eo28 | (injection eo28 with f1_ f2_ f3_; have f4_ := f1_.symm; have f5_ := f3_.symm; clear f1_ f2_ f3_; subst f4_; subst f5_))
                  refine hK.out _ _ ⟨(blk_cell BK519.out 0).trans rfl, (blk_cell BK519.out 1).trans rfl, (blk_cell BK520.out 0).trans rfl, (blk_cell BK520.out 1).trans rfl, (blk_cell BK520.out 2).trans rfl, (blk_cell BK520.out 3).trans rfl⟩ (fun hHeld => ?_)
                  clear hK K
                  refine norm_ (a' := ?_) ?_ ?_
                  rotate_left
                  · show Act.put _ (some 5) _ = _
                    simp only [Act.put, List.setIfInBounds_toArray, List.set_cons_zero, List.set_cons_succ, i64_w, i32_w]
                    rfl
                  refine one_ (i := 6) (N := some 32) #[true, true, true, true, true, true, true, false, false, false, true, false, false] rfl rfl (one_of HT_.out (by kernel_rfl)) (by decide) (fun K hK => ?_)
                  refine goes_ Try.func27 (by kernel_rfl) rfl #[.agg #[.slice Ao28 t523.length co28, .int .i64 t526], .agg #[.int .i64 a1_0, .int .i64 a1_1], .string a1_3] (by rfl) rfl rfl (by (try simp only [List.map_toArray, List.map_cons, List.map_nil]); first | done | rfl | (simp only [List.length_drop, List.length_take]; rfl)) ?_
                  with_reducible refine (segment_Written.calls kj4 _ _ t523 t526 a1_0 a1_1 a1_3 t527 t530 t531 _ ?side1 ?side2 A20.out).mono ?_
                  (case side1 => repeat (first | exact (Kd.R_reads' HO525.out).2.2 | (with_reducible refine Kd.C_alloc ?_ _) | (with_reducible refine Kd.C_drewN ?_ _) | (with_reducible refine Kd.C_drew ?_)))
                  (case side2 => exact (Kd.R_reads' HO525.out).2.1)
                  rintro e w29 ⟨v528, rfl, ho0, hb⟩
                  refine ⟨_, rfl, ?_⟩
                  have n0_ := Aside0.mk (Kd.R_elder' (by (with_reducible repeat (first | apply Kd.R_alloc | apply Kd.R_drewN | apply Kd.R_drew)); exact HO525.out) (Kd.R_base ho0) hb)
                  have n1_ := Aside0.mk (Kd.R_lower (Kd.R_new' ho0 (Kd.R_lt (by (with_reducible repeat (first | apply Kd.R_alloc | apply Kd.R_drewN | apply Kd.R_drew)); exact HO525.out))) (below_size (by repeat (first | (with_reducible first | exact HB.out | apply below_alloc | apply pw_below_drewN | apply below_drew1 | refine below_set ?_ GE519.out | refine below_set ?_ GE520.out | refine below_set ?_ GE532.out) | exact HB.out))))
                  have n2_ := Aside0.mk (blk_below (g := gb519) (o := .cells #[.slice A0_0 l0_0.length c0_0, .int .i64 a0_1] 24 (0, 0)) (by (with_reducible repeat (first | refine blk_drewN ?_ _ | refine blk_drew ?_ | refine blk_alloc ?_ _)); exact BK519.out) hb)
                  have n3_ := Aside0.mk (blk_below (g := gb520) (o := .cells #[.int .i64 a1_0, .int .i64 a1_1, .int .i64 a1_2, .string a1_3] 48 (0, 0)) (by (with_reducible repeat (first | refine blk_drewN ?_ _ | refine blk_drew ?_ | refine blk_alloc ?_ _)); exact BK520.out) hb)
                  have n4_ := Aside0.mk (blk_below (g := gb532) (o := .cells #[.slice none 0 0, .int .i64 0] 24 (0, 0)) (by (with_reducible repeat (first | refine blk_drewN ?_ _ | refine blk_drew ?_ | refine blk_alloc ?_ _)); exact BK532.out) hb)
                  have n5_ := Aside0.mk (below_step (by repeat (first | (with_reducible first | exact HB.out | apply below_alloc | apply pw_below_drewN | apply below_drew1 | refine below_set ?_ GE519.out | refine below_set ?_ GE520.out | refine below_set ?_ GE532.out) | exact HB.out)) hb)
                  clear HO525
                  clear BK519
                  clear BK520
                  clear BK532
                  clear HB
                  have HO525 := n0_
                  have HO529 := n1_
                  have BK519 := n2_
                  have BK520 := n3_
                  have BK532 := n4_
                  have HB := n5_
                  clear n0_ n1_ n2_ n3_ n4_ n5_
                  (try clear hb)
                  (try clear hb2)
                  (try clear hk)
                  (try clear hi)
                  (try clear ho0)
                  refine hK.out _ _ ⟨(blk_cell BK519.out 0).trans rfl, (blk_cell BK519.out 1).trans rfl, (blk_cell BK520.out 0).trans rfl, (blk_cell BK520.out 1).trans rfl, (blk_cell BK520.out 2).trans rfl, (blk_cell BK520.out 3).trans rfl⟩ (fun hHeld => ?_)
                  clear hK K
                  refine norm_ (a' := ?_) ?_ ?_
                  rotate_left
                  · show Act.put _ (some 32) _ = _
                    simp only [Act.put, List.setIfInBounds_toArray, List.set_cons_zero, List.set_cons_succ, i64_w, i32_w]
                    rfl
                  refine pure_ (i := 7) (N := some 25) (v := ?_) (a' := ?_) #[true, true, true, true, true, true, true, true, false, false, true, false, false] rfl rfl (any_of HT_.out (by kernel_rfl)) (fun _ _ _ h => h) (Or.inl ⟨by rfl, ?_⟩) ?_ ?_
                  rotate_left
                  · intro w'
                    go_simp
                    with_reducible rfl
                  rotate_left
                  · simp only [Act.put, List.setIfInBounds_toArray, List.set_cons_zero, List.set_cons_succ, i64_w, i32_w]
                    rfl
                  refine pure_ (i := 8) (N := some 33) (v := ?_) (a' := ?_) #[true, true, true, true, true, true, true, true, true, false, true, false, false] rfl rfl (any_of HT_.out (by kernel_rfl)) (fun _ _ _ h => h) (Or.inl ⟨by rfl, ?_⟩) ?_ ?_
                  rotate_left
                  · intro w'
                    go_simp
                    with_reducible rfl
                  rotate_left
                  · simp only [Act.put, List.setIfInBounds_toArray, List.set_cons_zero, List.set_cons_succ, i64_w, i32_w]
                    rfl
                  refine pure_ (i := 9) (N := some 34) (v := ?_) (a' := ?_) #[true, true, true, true, true, true, true, true, true, true, true, false, false] rfl rfl (any_of HT_.out (by kernel_rfl)) (fun _ _ _ h => h) (Or.inl ⟨by rfl, ?_⟩) ?_ ?_
                  rotate_left
                  · intro w'
                    go_simp
                    with_reducible rfl
                  rotate_left
                  · simp only [Act.put, List.setIfInBounds_toArray, List.set_cons_zero, List.set_cons_succ, i64_w, i32_w]
                    rfl
                  exact norm_ (by simp only [putAll, Act.put, List.setIfInBounds_toArray, List.set_cons_zero, List.set_cons_succ]) (hCont (.slice Ao28 t523.length co28, v528, gb532) _ ⟨hHeld, (by (with_reducible repeat (first | apply Kd.R_alloc | apply Kd.R_drewN | apply Kd.R_drew)); exact Kd.R_mono HO525.out (fun _ hk => hk.2)), (by (with_reducible repeat (first | apply Kd.R_alloc | apply Kd.R_drewN | apply Kd.R_drew)); exact Kd.R_mono HO529.out (fun _ hk => hk.2)), (by (with_reducible repeat (first | refine blk_drewN ?_ _ | refine blk_drew ?_ | refine blk_alloc ?_ _)); exact BK519.out), (by (with_reducible repeat (first | refine blk_drewN ?_ _ | refine blk_drew ?_ | refine blk_alloc ?_ _)); exact BK520.out), (by (with_reducible repeat (first | refine blk_drewN ?_ _ | refine blk_drew ?_ | refine blk_alloc ?_ _)); exact BK532.out), GW532.out, GE532.out, NB519_532.out, NB532_519.out, NB520_532.out, NB532_520.out, (by repeat (first | (with_reducible first | exact HB.out | apply below_alloc | apply pw_below_drewN | apply below_drew1 | refine below_set ?_ GE519.out | refine below_set ?_ GE520.out | refine below_set ?_ GE532.out) | exact HB.out))⟩)
              · skip
                refine box_step ?hg (N := 5) ?hd (cs := #[.slice none 0 0, .int .i64 0]) (t := 24) ?hr ?_; (case hd => rfl); (case hg => rfl); (case hr => first | (go_simp; done) | (go_simp; rfl))
                intro gb532 hg w26 hbox hb
                have n0_ := Aside0.mk (blk_below (g := gb519) (o := .cells #[.slice A0_0 l0_0.length c0_0, .int .i64 a0_1] 24 (0, 0)) (by (with_reducible repeat (first | refine blk_drewN ?_ _ | refine blk_drew ?_ | refine blk_alloc ?_ _)); exact BK519.out) hb)
                have n1_ := Aside0.mk (blk_below (g := gb520) (o := .cells #[.int .i64 a1_0, .int .i64 a1_1, .int .i64 a1_2, .string a1_3] 48 (0, 0)) (by (with_reducible repeat (first | refine blk_drewN ?_ _ | refine blk_drew ?_ | refine blk_alloc ?_ _)); exact BK520.out) hb)
                have n2_ := Aside0.mk (below_step (by repeat (first | (with_reducible first | exact HB.out | apply below_alloc | apply pw_below_drewN | apply below_drew1 | refine below_set ?_ GE519.out | refine below_set ?_ GE520.out) | exact HB.out)) hb)
                have n3_ := Aside0.mk (hbox)
                have n4_ := Aside0.mk ((by rw [hg]; exact (below_size (by repeat (first | (with_reducible first | exact HB.out | apply below_alloc | apply pw_below_drewN | apply below_drew1 | refine below_set ?_ GE519.out | refine below_set ?_ GE520.out) | exact HB.out))) : w.heap.size ≤ gb532))
                have n5_ := Aside0.mk ((by rw [hg]; exact (below_size (by repeat (first | (with_reducible first | exact HB.out | apply below_alloc | apply pw_below_drewN | apply below_drew1 | refine below_set ?_ GE519.out | refine below_set ?_ GE520.out) | exact HB.out))) : w.heap.size ≤ gb532))
                have n6_ := Aside0.mk ((by rw [hg]; exact Nat.ne_of_lt (blk_lt (g := gb519) (o := .cells #[.slice A0_0 l0_0.length c0_0, .int .i64 a0_1] 24 (0, 0)) (by (with_reducible repeat (first | refine blk_drewN ?_ _ | refine blk_drew ?_ | refine blk_alloc ?_ _)); exact BK519.out)) : gb519 ≠ gb532))
                have n7_ := Aside0.mk ((by rw [hg]; exact Nat.ne_of_gt (blk_lt (g := gb519) (o := .cells #[.slice A0_0 l0_0.length c0_0, .int .i64 a0_1] 24 (0, 0)) (by (with_reducible repeat (first | refine blk_drewN ?_ _ | refine blk_drew ?_ | refine blk_alloc ?_ _)); exact BK519.out)) : gb532 ≠ gb519))
                have n8_ := Aside0.mk ((by rw [hg]; exact Nat.ne_of_lt (blk_lt (g := gb520) (o := .cells #[.int .i64 a1_0, .int .i64 a1_1, .int .i64 a1_2, .string a1_3] 48 (0, 0)) (by (with_reducible repeat (first | refine blk_drewN ?_ _ | refine blk_drew ?_ | refine blk_alloc ?_ _)); exact BK520.out)) : gb520 ≠ gb532))
                have n9_ := Aside0.mk ((by rw [hg]; exact Nat.ne_of_gt (blk_lt (g := gb520) (o := .cells #[.int .i64 a1_0, .int .i64 a1_1, .int .i64 a1_2, .string a1_3] 48 (0, 0)) (by (with_reducible repeat (first | refine blk_drewN ?_ _ | refine blk_drew ?_ | refine blk_alloc ?_ _)); exact BK520.out)) : gb532 ≠ gb520))
                clear BK519
                clear BK520
                clear HB
                have BK519 := n0_
                have BK520 := n1_
                have HB := n2_
                have BK532 := n3_
                have GW532 := n4_
                have GE532 := n5_
                have NB519_532 := n6_
                have NB532_519 := n7_
                have NB520_532 := n8_
                have NB532_520 := n9_
                clear n0_ n1_ n2_ n3_ n4_ n5_ n6_ n7_ n8_ n9_
                clear hb hbox hg
                refine hK.out _ _ ⟨(blk_cell BK519.out 0).trans rfl, (blk_cell BK519.out 1).trans rfl, (blk_cell BK520.out 0).trans rfl, (blk_cell BK520.out 1).trans rfl, (blk_cell BK520.out 2).trans rfl, (blk_cell BK520.out 3).trans rfl⟩ (fun hHeld => ?_)
                clear hK K
                refine norm_ (a' := ?_) ?_ ?_
                rotate_left
                · show Act.put _ (some 5) _ = _
                  simp only [Act.put, List.setIfInBounds_toArray, List.set_cons_zero, List.set_cons_succ, i64_w, i32_w]
                  rfl
                refine one_ (i := 1) (N := some 27) #[true, true, true, true, true, true, false, false, false, false, true, false, false] rfl rfl (one_of HT_.out (by kernel_rfl)) (by decide) (fun K hK => ?_)
                refine goes_ Try.func13 (by kernel_rfl) rfl #[.agg #[.slice A0_0 l0_0.length c0_0, .int .i64 a0_1]] (by rfl) rfl rfl (by (try simp only [List.map_toArray, List.map_cons, List.map_nil]); first | done | rfl | (simp only [List.length_drop, List.length_take]; rfl)) ?_
                with_reducible refine (midrangeref04_Own.calls _ _ l0_0 a0_1 t523 t526 _ ?side1 ?side2 A19.out).mono ?_
                (case side1 => repeat (first | exact (Kd.C_below HR0_0.out HB.out) | (with_reducible refine Kd.C_alloc ?_ _) | (with_reducible refine Kd.C_drewN ?_ _) | (with_reducible refine Kd.C_drew ?_)))
                (case side2 => exact HC0_0.out)
                rintro e w27 ⟨v524, rfl, ho0, hb⟩
                refine ⟨_, rfl, ?_⟩
                have n0_ := Aside0.mk (Kd.R_lower ho0 (below_size (by repeat (first | (with_reducible first | exact HB.out | apply below_alloc | apply pw_below_drewN | apply below_drew1 | refine below_set ?_ GE519.out | refine below_set ?_ GE520.out | refine below_set ?_ GE532.out) | exact HB.out))))
                have n1_ := Aside0.mk (blk_below (g := gb519) (o := .cells #[.slice A0_0 l0_0.length c0_0, .int .i64 a0_1] 24 (0, 0)) (by (with_reducible repeat (first | refine blk_drewN ?_ _ | refine blk_drew ?_ | refine blk_alloc ?_ _)); exact BK519.out) hb)
                have n2_ := Aside0.mk (blk_below (g := gb520) (o := .cells #[.int .i64 a1_0, .int .i64 a1_1, .int .i64 a1_2, .string a1_3] 48 (0, 0)) (by (with_reducible repeat (first | refine blk_drewN ?_ _ | refine blk_drew ?_ | refine blk_alloc ?_ _)); exact BK520.out) hb)
                have n3_ := Aside0.mk (blk_below (g := gb532) (o := .cells #[.slice none 0 0, .int .i64 0] 24 (0, 0)) (by (with_reducible repeat (first | refine blk_drewN ?_ _ | refine blk_drew ?_ | refine blk_alloc ?_ _)); exact BK532.out) hb)
                have n4_ := Aside0.mk (below_step (by repeat (first | (with_reducible first | exact HB.out | apply below_alloc | apply pw_below_drewN | apply below_drew1 | refine below_set ?_ GE519.out | refine below_set ?_ GE520.out | refine below_set ?_ GE532.out) | exact HB.out)) hb)
                clear BK519
                clear BK520
                clear BK532
                clear HB
                have HO525 := n0_
                have BK519 := n1_
                have BK520 := n2_
                have BK532 := n3_
                have HB := n4_
                clear n0_ n1_ n2_ n3_ n4_
                (try clear hb)
                (try clear hb2)
                (try clear hk)
                (try clear hi)
                (try clear ho0)
                obtain ⟨Ao28, co28, eo28⟩ := Kd.R_slice HO525.out
                (first | subst eo28 | (injection eo28 with f1_ f2_ f3_; have f4_ := f1_.symm; have f5_ := f3_.symm; clear f1_ f2_ f3_; subst f4_; subst f5_))
                refine hK.out _ _ ⟨(blk_cell BK519.out 0).trans rfl, (blk_cell BK519.out 1).trans rfl, (blk_cell BK520.out 0).trans rfl, (blk_cell BK520.out 1).trans rfl, (blk_cell BK520.out 2).trans rfl, (blk_cell BK520.out 3).trans rfl⟩ (fun hHeld => ?_)
                clear hK K
                refine norm_ (a' := ?_) ?_ ?_
                rotate_left
                · show Act.put _ (some 27) _ = _
                  simp only [Act.put, List.setIfInBounds_toArray, List.set_cons_zero, List.set_cons_succ, i64_w, i32_w]
                  rfl
                refine one_ (i := 6) (N := some 32) #[true, true, true, true, true, true, true, false, false, false, true, false, false] rfl rfl (one_of HT_.out (by kernel_rfl)) (by decide) (fun K hK => ?_)
                refine goes_ Try.func27 (by kernel_rfl) rfl #[.agg #[.slice Ao28 t523.length co28, .int .i64 t526], .agg #[.int .i64 a1_0, .int .i64 a1_1], .string a1_3] (by rfl) rfl rfl (by (try simp only [List.map_toArray, List.map_cons, List.map_nil]); first | done | rfl | (simp only [List.length_drop, List.length_take]; rfl)) ?_
                with_reducible refine (segment_Written.calls kj4 _ _ t523 t526 a1_0 a1_1 a1_3 t527 t530 t531 _ ?side1 ?side2 A20.out).mono ?_
                (case side1 => repeat (first | exact (Kd.R_reads' HO525.out).2.2 | (with_reducible refine Kd.C_alloc ?_ _) | (with_reducible refine Kd.C_drewN ?_ _) | (with_reducible refine Kd.C_drew ?_)))
                (case side2 => exact (Kd.R_reads' HO525.out).2.1)
                rintro e w29 ⟨v528, rfl, ho0, hb⟩
                refine ⟨_, rfl, ?_⟩
                have n0_ := Aside0.mk (Kd.R_elder' (by (with_reducible repeat (first | apply Kd.R_alloc | apply Kd.R_drewN | apply Kd.R_drew)); exact HO525.out) (Kd.R_base ho0) hb)
                have n1_ := Aside0.mk (Kd.R_lower (Kd.R_new' ho0 (Kd.R_lt (by (with_reducible repeat (first | apply Kd.R_alloc | apply Kd.R_drewN | apply Kd.R_drew)); exact HO525.out))) (below_size (by repeat (first | (with_reducible first | exact HB.out | apply below_alloc | apply pw_below_drewN | apply below_drew1 | refine below_set ?_ GE519.out | refine below_set ?_ GE520.out | refine below_set ?_ GE532.out) | exact HB.out))))
                have n2_ := Aside0.mk (blk_below (g := gb519) (o := .cells #[.slice A0_0 l0_0.length c0_0, .int .i64 a0_1] 24 (0, 0)) (by (with_reducible repeat (first | refine blk_drewN ?_ _ | refine blk_drew ?_ | refine blk_alloc ?_ _)); exact BK519.out) hb)
                have n3_ := Aside0.mk (blk_below (g := gb520) (o := .cells #[.int .i64 a1_0, .int .i64 a1_1, .int .i64 a1_2, .string a1_3] 48 (0, 0)) (by (with_reducible repeat (first | refine blk_drewN ?_ _ | refine blk_drew ?_ | refine blk_alloc ?_ _)); exact BK520.out) hb)
                have n4_ := Aside0.mk (blk_below (g := gb532) (o := .cells #[.slice none 0 0, .int .i64 0] 24 (0, 0)) (by (with_reducible repeat (first | refine blk_drewN ?_ _ | refine blk_drew ?_ | refine blk_alloc ?_ _)); exact BK532.out) hb)
                have n5_ := Aside0.mk (below_step (by repeat (first | (with_reducible first | exact HB.out | apply below_alloc | apply pw_below_drewN | apply below_drew1 | refine below_set ?_ GE519.out | refine below_set ?_ GE520.out | refine below_set ?_ GE532.out) | exact HB.out)) hb)
                clear HO525
                clear BK519
                clear BK520
                clear BK532
                clear HB
                have HO525 := n0_
                have HO529 := n1_
                have BK519 := n2_
                have BK520 := n3_
                have BK532 := n4_
                have HB := n5_
                clear n0_ n1_ n2_ n3_ n4_ n5_
                (try clear hb)
                (try clear hb2)
                (try clear hk)
                (try clear hi)
                (try clear ho0)
                refine hK.out _ _ ⟨(blk_cell BK519.out 0).trans rfl, (blk_cell BK519.out 1).trans rfl, (blk_cell BK520.out 0).trans rfl, (blk_cell BK520.out 1).trans rfl, (blk_cell BK520.out 2).trans rfl, (blk_cell BK520.out 3).trans rfl⟩ (fun hHeld => ?_)
                clear hK K
                refine norm_ (a' := ?_) ?_ ?_
                rotate_left
                · show Act.put _ (some 32) _ = _
                  simp only [Act.put, List.setIfInBounds_toArray, List.set_cons_zero, List.set_cons_succ, i64_w, i32_w]
                  rfl
                refine pure_ (i := 7) (N := some 25) (v := ?_) (a' := ?_) #[true, true, true, true, true, true, true, true, false, false, true, false, false] rfl rfl (any_of HT_.out (by kernel_rfl)) (fun _ _ _ h => h) (Or.inl ⟨by rfl, ?_⟩) ?_ ?_
                rotate_left
                · intro w'
                  go_simp
                  with_reducible rfl
                rotate_left
                · simp only [Act.put, List.setIfInBounds_toArray, List.set_cons_zero, List.set_cons_succ, i64_w, i32_w]
                  rfl
                refine pure_ (i := 8) (N := some 33) (v := ?_) (a' := ?_) #[true, true, true, true, true, true, true, true, true, false, true, false, false] rfl rfl (any_of HT_.out (by kernel_rfl)) (fun _ _ _ h => h) (Or.inl ⟨by rfl, ?_⟩) ?_ ?_
                rotate_left
                · intro w'
                  go_simp
                  with_reducible rfl
                rotate_left
                · simp only [Act.put, List.setIfInBounds_toArray, List.set_cons_zero, List.set_cons_succ, i64_w, i32_w]
                  rfl
                refine pure_ (i := 9) (N := some 34) (v := ?_) (a' := ?_) #[true, true, true, true, true, true, true, true, true, true, true, false, false] rfl rfl (any_of HT_.out (by kernel_rfl)) (fun _ _ _ h => h) (Or.inl ⟨by rfl, ?_⟩) ?_ ?_
                rotate_left
                · intro w'
                  go_simp
                  with_reducible rfl
                rotate_left
                · simp only [Act.put, List.setIfInBounds_toArray, List.set_cons_zero, List.set_cons_succ, i64_w, i32_w]
                  rfl
                exact norm_ (by simp only [putAll, Act.put, List.setIfInBounds_toArray, List.set_cons_zero, List.set_cons_succ]) (hCont (.slice Ao28 t523.length co28, v528, gb532) _ ⟨hHeld, (by (with_reducible repeat (first | apply Kd.R_alloc | apply Kd.R_drewN | apply Kd.R_drew)); exact Kd.R_mono HO525.out (fun _ hk => hk.2)), (by (with_reducible repeat (first | apply Kd.R_alloc | apply Kd.R_drewN | apply Kd.R_drew)); exact Kd.R_mono HO529.out (fun _ hk => hk.2)), (by (with_reducible repeat (first | refine blk_drewN ?_ _ | refine blk_drew ?_ | refine blk_alloc ?_ _)); exact BK519.out), (by (with_reducible repeat (first | refine blk_drewN ?_ _ | refine blk_drew ?_ | refine blk_alloc ?_ _)); exact BK520.out), (by (with_reducible repeat (first | refine blk_drewN ?_ _ | refine blk_drew ?_ | refine blk_alloc ?_ _)); exact BK532.out), GW532.out, GE532.out, NB519_532.out, NB532_519.out, NB520_532.out, NB532_520.out, (by repeat (first | (with_reducible first | exact HB.out | apply below_alloc | apply pw_below_drewN | apply below_drew1 | refine below_set ?_ GE519.out | refine below_set ?_ GE520.out | refine below_set ?_ GE532.out) | exact HB.out))⟩)
            rintro ⟨v524, v528, gb532⟩ w30 ⟨hS_, h0_, h1_, h2_, h3_, h4_, h5_, h6_, h7_, h8_, h9_, h10_, h11_⟩
            have n0_ : Aside0 (Kd.R k56 56 w30 w.heap.size (fun k_ => some k_ ≠ (v528 : Value).ownBlock) v524 t523) := ⟨h0_⟩
            have n1_ : Aside0 (Kd.R k56 56 w30 w.heap.size (fun k_ => some k_ ≠ (v524 : Value).ownBlock) v528 t527) := ⟨h1_⟩
            have n2_ : Aside0 (w30.heap[gb519]? = some (.cells #[.slice A0_0 l0_0.length c0_0, .int .i64 a0_1] 24 (0, 0))) := ⟨h2_⟩
            have n3_ : Aside0 (w30.heap[gb520]? = some (.cells #[.int .i64 a1_0, .int .i64 a1_1, .int .i64 a1_2, .string a1_3] 48 (0, 0))) := ⟨h3_⟩
            have n4_ : Aside0 (w30.heap[gb532]? = some (.cells #[.slice none 0 0, .int .i64 0] 24 (0, 0))) := ⟨h4_⟩
            have n5_ : Aside0 (w.heap.size ≤ gb532) := ⟨h5_⟩
            have n6_ : Aside0 (w.heap.size ≤ gb532) := ⟨h6_⟩
            have n7_ : Aside0 (gb519 ≠ gb532) := ⟨h7_⟩
            have n8_ : Aside0 (gb532 ≠ gb519) := ⟨h8_⟩
            have n9_ : Aside0 (gb520 ≠ gb532) := ⟨h9_⟩
            have n10_ : Aside0 (gb532 ≠ gb520) := ⟨h10_⟩
            have n11_ : Aside0 (Below w.heap.size w w30) := ⟨h11_⟩
            clear BK519
            clear BK520
            clear HB
            clear h0_ h1_ h2_ h3_ h4_ h5_ h6_ h7_ h8_ h9_ h10_ h11_
            have HO525 := n0_
            have HO529 := n1_
            have BK519 := n2_
            have BK520 := n3_
            have BK532 := n4_
            have GW532 := n5_
            have GE532 := n6_
            have NB519_532 := n7_
            have NB532_519 := n8_
            have NB520_532 := n9_
            have NB532_520 := n10_
            have HB := n11_
            clear n0_ n1_ n2_ n3_ n4_ n5_ n6_ n7_ n8_ n9_ n10_ n11_
            have hHeld : w30.cell? ⟨gb519, 0, none⟩ = some (.slice A0_0 l0_0.length c0_0) ∧ w30.cell? ⟨gb519, 1, none⟩ = some (.int .i64 a0_1) ∧ w30.cell? ⟨gb520, 0, none⟩ = some (.int .i64 a1_0) ∧ w30.cell? ⟨gb520, 1, none⟩ = some (.int .i64 a1_1) ∧ w30.cell? ⟨gb520, 2, none⟩ = some (.int .i64 a1_2) ∧ w30.cell? ⟨gb520, 3, none⟩ = some (.string a1_3) := hS_
            obtain ⟨Ao31, co31, eo31⟩ := Kd.R_slice HO529.out
            (first | subst eo31 | (injection eo31 with f1_ f2_ f3_; have f4_ := f1_.symm; have f5_ := f3_.symm; clear f1_ f2_ f3_; subst f4_; subst f5_))
            refine norm_ (a' := ?_) ?_ ?_
            rotate_left
            · simp only [putAll, Act.put, List.setIfInBounds_toArray, List.set_cons_zero, List.set_cons_succ]
              rfl
            refine one_ (i := 11) (N := none) #[true, true, true, true, true, true, true, true, true, true, true, true, false] rfl rfl (one_of HT_.out (by kernel_rfl)) (by decide) (fun K hK => ?_)
            have hs32 : w30.cell? ⟨gb532, 0, none⟩ = some (.slice none 0 0) := (blk_cell BK532.out 0).trans rfl
            have hfs32 := blk_frozen BK532.out 0
            have hns32_0 := NB519_532.out
            have hns32_1 := NB520_532.out
            have hms32_0 := NB532_519.out
            have hms32_1 := NB532_520.out
            have hs33 : w30.cell? ⟨gb532, 1, none⟩ = some (.int .i64 0) := (blk_cell BK532.out 1).trans rfl
            have hfs33 := blk_frozen BK532.out 1
            have hns33_0 := NB519_532.out
            have hns33_1 := NB520_532.out
            have hms33_0 := NB532_519.out
            have hms33_1 := NB532_520.out
            refine skip_ (w1 := ?_) (by rfl) rfl ?_ ?_
            rotate_left
            · go_simp
              rfl
            refine hK.out _ _ ⟨((cell_far (p := ⟨gb532, _, none⟩) NB519_532.out _).trans (((cell_far (p := ⟨gb532, _, none⟩) NB519_532.out _).trans (hHeld.1)))), ((cell_far (p := ⟨gb532, _, none⟩) NB519_532.out _).trans (((cell_far (p := ⟨gb532, _, none⟩) NB519_532.out _).trans (hHeld.2.1)))), ((cell_far (p := ⟨gb532, _, none⟩) NB520_532.out _).trans (((cell_far (p := ⟨gb532, _, none⟩) NB520_532.out _).trans (hHeld.2.2.1)))), ((cell_far (p := ⟨gb532, _, none⟩) NB520_532.out _).trans (((cell_far (p := ⟨gb532, _, none⟩) NB520_532.out _).trans (hHeld.2.2.2.1)))), ((cell_far (p := ⟨gb532, _, none⟩) NB520_532.out _).trans (((cell_far (p := ⟨gb532, _, none⟩) NB520_532.out _).trans (hHeld.2.2.2.2.1)))), ((cell_far (p := ⟨gb532, _, none⟩) NB520_532.out _).trans (((cell_far (p := ⟨gb532, _, none⟩) NB520_532.out _).trans (hHeld.2.2.2.2.2))))⟩ (fun hHeld => ?_)
            clear hK K
            refine pure_ (i := 12) (N := some 6) (v := ?_) (a' := ?_) #[true, true, true, true, true, true, true, true, true, true, true, true, true] rfl rfl (any_of HT_.out (by kernel_rfl)) (fun _ _ _ h => h) (Or.inl ⟨by rfl, ?_⟩) ?_ ?_
            rotate_left
            · intro w'
              go_simp
              with_reducible rfl
            rotate_left
            · simp only [Act.put, List.setIfInBounds_toArray, List.set_cons_zero, List.set_cons_succ, i64_w, i32_w]
              rfl
            refine done_ (done_of HT_.out (by kernel_rfl)) ?_
            try go_wp2
            have n0_ : Aside0 (Kd.R k56 56 ((w30.setCell ⟨gb532, 0, none⟩ (.slice Ao31 t527.length co31)).setCell ⟨gb532, 1, none⟩ (.int .i64 t530)) w.heap.size (fun k_ => some k_ ≠ (.slice Ao31 t527.length co31 : Value).ownBlock) v524 t523) := ⟨by (with_reducible repeat (first | apply Kd.R_alloc | apply Kd.R_drewN | apply Kd.R_drew)); exact Kd.R_mono (Kd.R_far (p := ⟨gb532, 1, none⟩) (Kd.R_far (p := ⟨gb532, 0, none⟩) (Kd.R_types HO525.out BK532.out (by decide)) (fun _ hk => hk.2) (.slice Ao31 t527.length co31)) (fun _ hk => hk.2) (.int .i64 t530)) (fun _ hk => hk.1)⟩
            have n1_ : Aside0 (Kd.R k56 56 ((w30.setCell ⟨gb532, 0, none⟩ (.slice Ao31 t527.length co31)).setCell ⟨gb532, 1, none⟩ (.int .i64 t530)) w.heap.size (fun k_ => some k_ ≠ (v524 : Value).ownBlock) (.slice Ao31 t527.length co31) t527) := ⟨by (with_reducible repeat (first | apply Kd.R_alloc | apply Kd.R_drewN | apply Kd.R_drew)); exact Kd.R_mono (Kd.R_far (p := ⟨gb532, 1, none⟩) (Kd.R_far (p := ⟨gb532, 0, none⟩) (Kd.R_types HO529.out BK532.out (by decide)) (fun _ hk => hk.2) (.slice Ao31 t527.length co31)) (fun _ hk => hk.2) (.int .i64 t530)) (fun _ hk => hk.1)⟩
            have n2_ : Aside0 (((w30.setCell ⟨gb532, 0, none⟩ (.slice Ao31 t527.length co31)).setCell ⟨gb532, 1, none⟩ (.int .i64 t530)).heap[gb519]? = some (.cells #[.slice A0_0 l0_0.length c0_0, .int .i64 a0_1] 24 (0, 0))) := ⟨by (with_reducible repeat (first | refine blk_drewN ?_ _ | refine blk_drew ?_ | refine blk_alloc ?_ _)); refine blk_far ?_ NB519_532.out _; (with_reducible repeat (first | refine blk_drewN ?_ _ | refine blk_drew ?_ | refine blk_alloc ?_ _)); refine blk_far ?_ NB519_532.out _; (with_reducible repeat (first | refine blk_drewN ?_ _ | refine blk_drew ?_ | refine blk_alloc ?_ _)); exact BK519.out⟩
            have n3_ : Aside0 (((w30.setCell ⟨gb532, 0, none⟩ (.slice Ao31 t527.length co31)).setCell ⟨gb532, 1, none⟩ (.int .i64 t530)).heap[gb520]? = some (.cells #[.int .i64 a1_0, .int .i64 a1_1, .int .i64 a1_2, .string a1_3] 48 (0, 0))) := ⟨by (with_reducible repeat (first | refine blk_drewN ?_ _ | refine blk_drew ?_ | refine blk_alloc ?_ _)); refine blk_far ?_ NB520_532.out _; (with_reducible repeat (first | refine blk_drewN ?_ _ | refine blk_drew ?_ | refine blk_alloc ?_ _)); refine blk_far ?_ NB520_532.out _; (with_reducible repeat (first | refine blk_drewN ?_ _ | refine blk_drew ?_ | refine blk_alloc ?_ _)); exact BK520.out⟩
            have n4_ : Aside0 (((w30.setCell ⟨gb532, 0, none⟩ (.slice Ao31 t527.length co31)).setCell ⟨gb532, 1, none⟩ (.int .i64 t530)).heap[gb532]? = some (.cells #[.slice Ao31 t527.length co31, .int .i64 t530] 24 (0, 0))) := ⟨by (with_reducible repeat (first | refine blk_drewN ?_ _ | refine blk_drew ?_ | refine blk_alloc ?_ _)); refine blk_put (cs := #[.slice Ao31 t527.length co31, .int .i64 0]) ?_ 1 _ rfl; (with_reducible repeat (first | refine blk_drewN ?_ _ | refine blk_drew ?_ | refine blk_alloc ?_ _)); refine blk_put (cs := #[.slice none 0 0, .int .i64 0]) ?_ 0 _ rfl; (with_reducible repeat (first | refine blk_drewN ?_ _ | refine blk_drew ?_ | refine blk_alloc ?_ _)); exact BK532.out⟩
            have n5_ : Aside0 (Below w.heap.size w ((w30.setCell ⟨gb532, 0, none⟩ (.slice Ao31 t527.length co31)).setCell ⟨gb532, 1, none⟩ (.int .i64 t530))) := ⟨by repeat (first | (with_reducible first | exact HB.out | apply below_alloc | apply pw_below_drewN | apply below_drew1 | refine below_set ?_ GE519.out | refine below_set ?_ GE520.out | refine below_set ?_ GE532.out) | exact HB.out)⟩
            (try clear HO525)
            (try clear HO529)
            (try clear BK519)
            (try clear BK520)
            (try clear BK532)
            (try clear HB)
            generalize ((w30.setCell ⟨gb532, 0, none⟩ (.slice Ao31 t527.length co31)).setCell ⟨gb532, 1, none⟩ (.int .i64 t530)) = w34 at n0_ n1_ n2_ n3_ n4_ n5_ ⊢
            have HO525 := n0_
            have HO529 := n1_
            have BK519 := n2_
            have BK520 := n3_
            have BK532 := n4_
            have HB := n5_
            clear n0_ n1_ n2_ n3_ n4_ n5_
            have n0_ := Aside0.mk (Kd.R_drew HO525.out)
            have n1_ := Aside0.mk (Kd.R_drew HO529.out)
            have n2_ := Aside0.mk (blk_drew BK519.out)
            have n3_ := Aside0.mk (blk_drew BK520.out)
            have n4_ := Aside0.mk (blk_drew BK532.out)
            have n5_ := Aside0.mk (below_drew1 HB.out)
            clear HO525
            clear HO529
            clear BK519
            clear BK520
            clear BK532
            clear HB
            have HO525 := n0_
            have HO529 := n1_
            have BK519 := n2_
            have BK520 := n3_
            have BK532 := n4_
            have HB := n5_
            clear n0_ n1_ n2_ n3_ n4_ n5_
            refine start_ (n := 13) (S := fun w' => w'.cell? ⟨gb532, 0, none⟩ = some (.slice Ao31 t527.length co31) ∧ w'.cell? ⟨gb532, 1, none⟩ = some (.int .i64 t530) ∧ w'.cell? ⟨gb520, 0, none⟩ = some (.int .i64 a1_0) ∧ w'.cell? ⟨gb520, 1, none⟩ = some (.int .i64 a1_1) ∧ w'.cell? ⟨gb520, 2, none⟩ = some (.int .i64 a1_2) ∧ w'.cell? ⟨gb520, 3, none⟩ = some (.string a1_3)) (ds := []) #[false, false, false, false, false, false, false, false, false, false, false, false, false] (by kernel_rfl) rfl rfl ⟨(blk_cell BK532.out 0).trans rfl, (blk_cell BK532.out 1).trans rfl, (blk_cell BK520.out 0).trans rfl, (blk_cell BK520.out 1).trans rfl, (blk_cell BK520.out 2).trans rfl, (blk_cell BK520.out 3).trans rfl⟩ (fun hHeld => ?_); refine with_tabW midrangelaw04_SegmentReads.tab8 midrangelaw04_SegmentReads.bits8 (fun HT_ HW_ => ?_)
            generalize w34.drew = w35 at HO525 HO529 BK519 BK520 BK532 HB hHeld ⊢
            refine pure_ (i := 2) (N := some 40) (v := ?_) (a' := ?_) #[false, false, true, false, false, false, false, false, false, false, false, false, false] rfl rfl (any_of HT_.out (by kernel_rfl)) (fun _ _ _ h => h) (Or.inl ⟨by rfl, ?_⟩) ?_ ?_
            rotate_left
            · intro w'
              go_simp
              with_reducible rfl
            rotate_left
            · simp only [Act.put, List.setIfInBounds_toArray, List.set_cons_zero, List.set_cons_succ, i64_w, i32_w]
              rfl
            refine pure_ (i := 4) (N := some 42) (v := ?_) (a' := ?_) #[false, false, true, false, true, false, false, false, false, false, false, false, false] rfl rfl (any_of HT_.out (by kernel_rfl)) (fun _ _ _ h => h) (Or.inl ⟨by rfl, ?_⟩) ?_ ?_
            rotate_left
            · intro w'
              go_simp
              with_reducible rfl
            rotate_left
            · simp only [Act.put, List.setIfInBounds_toArray, List.set_cons_zero, List.set_cons_succ, i64_w, i32_w]
              rfl
            refine take_ (i := 0) (N := some 38) (v := ?_) (a' := ?_) #[true, false, true, false, true, false, false, false, false, false, false, false, false] rfl rfl (take_ofW HT_.out HW_.out (by kernel_rfl)) (fun _ _ _ h => h) (Or.inl ⟨by rfl, ?_⟩) hHeld ?_ ?_
            rotate_left
            · rintro w' ⟨s0, s1, s2, s3, s4, s5⟩
              go_simp
              with_reducible rfl
            rotate_left
            · simp only [Act.put, List.setIfInBounds_toArray, List.set_cons_zero, List.set_cons_succ, i64_w, i32_w]
              rfl
            refine take_ (i := 3) (N := some 41) (v := ?_) (a' := ?_) #[true, false, true, true, true, false, false, false, false, false, false, false, false] rfl rfl (take_ofW HT_.out HW_.out (by kernel_rfl)) (fun _ _ _ h => h) (Or.inl ⟨by rfl, ?_⟩) hHeld ?_ ?_
            rotate_left
            · rintro w' ⟨s0, s1, s2, s3, s4, s5⟩
              go_simp
              with_reducible rfl
            rotate_left
            · simp only [Act.put, List.setIfInBounds_toArray, List.set_cons_zero, List.set_cons_succ, i64_w, i32_w]
              rfl
            refine take_ (i := 5) (N := some 43) (v := ?_) (a' := ?_) #[true, false, true, true, true, true, false, false, false, false, false, false, false] rfl rfl (take_ofW HT_.out HW_.out (by kernel_rfl)) (fun _ _ _ h => h) (Or.inl ⟨by rfl, ?_⟩) hHeld ?_ ?_
            rotate_left
            · rintro w' ⟨s0, s1, s2, s3, s4, s5⟩
              go_simp
              with_reducible rfl
            rotate_left
            · simp only [Act.put, List.setIfInBounds_toArray, List.set_cons_zero, List.set_cons_succ, i64_w, i32_w]
              rfl
            refine pure_ (i := 6) (N := some 44) (v := ?_) (a' := ?_) #[true, false, true, true, true, true, true, false, false, false, false, false, false] rfl rfl (any_of HT_.out (by kernel_rfl)) (fun _ _ _ h => h) (Or.inl ⟨by rfl, ?_⟩) ?_ ?_
            rotate_left
            · intro w'
              go_simp
              with_reducible rfl
            rotate_left
            · simp only [Act.put, List.setIfInBounds_toArray, List.set_cons_zero, List.set_cons_succ, i64_w, i32_w]
              rfl
            refine one_ (i := 1) (N := some 39) #[true, true, true, true, true, true, true, false, false, false, false, false, false] rfl rfl (one_of HT_.out (by kernel_rfl)) (by decide) (fun K hK => ?_)
            refine goes_ Try.func13 (by kernel_rfl) rfl #[.agg #[.slice Ao31 t527.length co31, .int .i64 t530]] (by rfl) rfl rfl (by (try simp only [List.map_toArray, List.map_cons, List.map_nil]); first | done | rfl | (simp only [List.length_drop, List.length_take]; rfl)) ?_
            with_reducible refine (midrangeref04_Own.calls _ _ t527 t530 t533 t536 _ ?side1 ?side2 A22.out).mono ?_
            (case side1 => repeat (first | exact (Kd.R_reads' HO529.out).2.2 | (with_reducible refine Kd.C_alloc ?_ _) | (with_reducible refine Kd.C_drewN ?_ _) | (with_reducible refine Kd.C_drew ?_)))
            (case side2 => exact (Kd.R_reads' HO529.out).2.1)
            rintro e w36 ⟨v534, rfl, ho0, hb⟩
            refine ⟨_, rfl, ?_⟩
            have n0_ := Aside0.mk (Kd.R_elder' (by (with_reducible repeat (first | apply Kd.R_alloc | apply Kd.R_drewN | apply Kd.R_drew)); exact HO525.out) (Kd.R_base ho0) hb)
            have n1_ := Aside0.mk (Kd.R_elder' (by (with_reducible repeat (first | apply Kd.R_alloc | apply Kd.R_drewN | apply Kd.R_drew)); exact HO529.out) (Kd.R_base ho0) hb)
            have n2_ := Aside0.mk (Kd.R_lower (Kd.R_new' (Kd.R_new' ho0 (Kd.R_lt (by (with_reducible repeat (first | apply Kd.R_alloc | apply Kd.R_drewN | apply Kd.R_drew)); exact HO525.out))) (Kd.R_lt (by (with_reducible repeat (first | apply Kd.R_alloc | apply Kd.R_drewN | apply Kd.R_drew)); exact HO529.out))) (below_size (by repeat (first | (with_reducible first | exact HB.out | apply below_alloc | apply pw_below_drewN | apply below_drew1 | refine below_set ?_ GE519.out | refine below_set ?_ GE520.out | refine below_set ?_ GE532.out) | exact HB.out))))
            have n3_ := Aside0.mk (blk_below (g := gb519) (o := .cells #[.slice A0_0 l0_0.length c0_0, .int .i64 a0_1] 24 (0, 0)) (by (with_reducible repeat (first | refine blk_drewN ?_ _ | refine blk_drew ?_ | refine blk_alloc ?_ _)); exact BK519.out) hb)
            have n4_ := Aside0.mk (blk_below (g := gb520) (o := .cells #[.int .i64 a1_0, .int .i64 a1_1, .int .i64 a1_2, .string a1_3] 48 (0, 0)) (by (with_reducible repeat (first | refine blk_drewN ?_ _ | refine blk_drew ?_ | refine blk_alloc ?_ _)); exact BK520.out) hb)
            have n5_ := Aside0.mk (blk_below (g := gb532) (o := .cells #[.slice Ao31 t527.length co31, .int .i64 t530] 24 (0, 0)) (by (with_reducible repeat (first | refine blk_drewN ?_ _ | refine blk_drew ?_ | refine blk_alloc ?_ _)); exact BK532.out) hb)
            have n6_ := Aside0.mk (below_step (by repeat (first | (with_reducible first | exact HB.out | apply below_alloc | apply pw_below_drewN | apply below_drew1 | refine below_set ?_ GE519.out | refine below_set ?_ GE520.out | refine below_set ?_ GE532.out) | exact HB.out)) hb)
            clear HO525
            clear HO529
            clear BK519
            clear BK520
            clear BK532
            clear HB
            have HO525 := n0_
            have HO529 := n1_
            have HO535 := n2_
            have BK519 := n3_
            have BK520 := n4_
            have BK532 := n5_
            have HB := n6_
            clear n0_ n1_ n2_ n3_ n4_ n5_ n6_
            (try clear hb)
            (try clear hb2)
            (try clear hk)
            (try clear hi)
            (try clear ho0)
            obtain ⟨Ao37, co37, eo37⟩ := Kd.R_slice HO535.out
            (first | subst eo37 | (injection eo37 with f1_ f2_ f3_; have f4_ := f1_.symm; have f5_ := f3_.symm; clear f1_ f2_ f3_; subst f4_; subst f5_))
            refine hK.out _ _ ⟨(blk_cell BK532.out 0).trans rfl, (blk_cell BK532.out 1).trans rfl, (blk_cell BK520.out 0).trans rfl, (blk_cell BK520.out 1).trans rfl, (blk_cell BK520.out 2).trans rfl, (blk_cell BK520.out 3).trans rfl⟩ (fun hHeld => ?_)
            clear hK K
            refine norm_ (a' := ?_) ?_ ?_
            rotate_left
            · show Act.put _ (some 39) _ = _
              simp only [Act.put, List.setIfInBounds_toArray, List.set_cons_zero, List.set_cons_succ, i64_w, i32_w]
              rfl
            refine one_ (i := 7) (N := some 45) #[true, true, true, true, true, true, true, true, false, false, false, false, false] rfl rfl (one_of HT_.out (by kernel_rfl)) (by decide) (fun K hK => ?_)
            refine goes_ Try.func26 (by kernel_rfl) rfl #[.agg #[.slice Ao37 t533.length co37, .int .i64 t536], .agg #[.int .i64 a1_0, .int .i64 a1_1], .int .i64 (a1_3.size : Int)] (by rfl) rfl rfl (by (try simp only [List.map_toArray, List.map_cons, List.map_nil]); first | done | rfl | (simp only [List.length_drop, List.length_take]; rfl)) ?_
            with_reducible refine (segment_ReadAt.calls kj4 _ _ t533 t536 a1_0 a1_1 (a1_3.size : Int) t537 t538 _ ?side1 ?side2 A23.out).mono ?_
            (case side1 => repeat (first | exact (Kd.R_reads' HO535.out).2.2 | (with_reducible refine Kd.C_alloc ?_ _) | (with_reducible refine Kd.C_drewN ?_ _) | (with_reducible refine Kd.C_drew ?_)))
            (case side2 => exact (Kd.R_reads' HO535.out).2.1)
            rintro e w38 ⟨rfl, hb⟩
            refine ⟨_, rfl, ?_⟩
            have n0_ := Aside0.mk (Kd.R_below (by (with_reducible repeat (first | apply Kd.R_alloc | apply Kd.R_drewN | apply Kd.R_drew)); exact HO525.out) hb)
            have n1_ := Aside0.mk (Kd.R_below (by (with_reducible repeat (first | apply Kd.R_alloc | apply Kd.R_drewN | apply Kd.R_drew)); exact HO529.out) hb)
            have n2_ := Aside0.mk (Kd.R_below (by (with_reducible repeat (first | apply Kd.R_alloc | apply Kd.R_drewN | apply Kd.R_drew)); exact HO535.out) hb)
            have n3_ := Aside0.mk (blk_below (g := gb519) (o := .cells #[.slice A0_0 l0_0.length c0_0, .int .i64 a0_1] 24 (0, 0)) (by (with_reducible repeat (first | refine blk_drewN ?_ _ | refine blk_drew ?_ | refine blk_alloc ?_ _)); exact BK519.out) hb)
            have n4_ := Aside0.mk (blk_below (g := gb520) (o := .cells #[.int .i64 a1_0, .int .i64 a1_1, .int .i64 a1_2, .string a1_3] 48 (0, 0)) (by (with_reducible repeat (first | refine blk_drewN ?_ _ | refine blk_drew ?_ | refine blk_alloc ?_ _)); exact BK520.out) hb)
            have n5_ := Aside0.mk (blk_below (g := gb532) (o := .cells #[.slice Ao31 t527.length co31, .int .i64 t530] 24 (0, 0)) (by (with_reducible repeat (first | refine blk_drewN ?_ _ | refine blk_drew ?_ | refine blk_alloc ?_ _)); exact BK532.out) hb)
            have n6_ := Aside0.mk (below_step (by repeat (first | (with_reducible first | exact HB.out | apply below_alloc | apply pw_below_drewN | apply below_drew1 | refine below_set ?_ GE519.out | refine below_set ?_ GE520.out | refine below_set ?_ GE532.out) | exact HB.out)) hb)
            clear HO525
            clear HO529
            clear HO535
            clear BK519
            clear BK520
            clear BK532
            clear HB
            have HO525 := n0_
            have HO529 := n1_
            have HO535 := n2_
            have BK519 := n3_
            have BK520 := n4_
            have BK532 := n5_
            have HB := n6_
            clear n0_ n1_ n2_ n3_ n4_ n5_ n6_
            (try clear hb)
            (try clear hb2)
            (try clear hk)
            (try clear hi)
            refine hK.out _ _ ⟨(blk_cell BK532.out 0).trans rfl, (blk_cell BK532.out 1).trans rfl, (blk_cell BK520.out 0).trans rfl, (blk_cell BK520.out 1).trans rfl, (blk_cell BK520.out 2).trans rfl, (blk_cell BK520.out 3).trans rfl⟩ (fun hHeld => ?_)
            clear hK K
            refine norm_ (a' := ?_) ?_ ?_
            rotate_left
            · show Act.put _ (some 45) _ = _
              simp only [Act.put, List.setIfInBounds_toArray, List.set_cons_zero, List.set_cons_succ, i64_w, i32_w]
              rfl
            refine pure_ (i := 8) (N := some 37) (v := ?_) (a' := ?_) #[true, true, true, true, true, true, true, true, true, false, false, false, false] rfl rfl (any_of HT_.out (by kernel_rfl)) (fun _ _ _ h => h) (Or.inl ⟨by rfl, ?_⟩) ?_ ?_
            rotate_left
            · intro w'
              go_simp
              with_reducible rfl
            rotate_left
            · simp only [Act.put, List.setIfInBounds_toArray, List.set_cons_zero, List.set_cons_succ, i64_w, i32_w]
              rfl
            refine pure_ (i := 9) (N := some 46) (v := ?_) (a' := ?_) #[true, true, true, true, true, true, true, true, true, true, false, false, false] rfl rfl (any_of HT_.out (by kernel_rfl)) (fun _ _ _ h => h) (Or.inl ⟨by rfl, ?_⟩) ?_ ?_
            rotate_left
            · intro w'
              go_simp
              with_reducible rfl
            rotate_left
            · simp only [Act.put, List.setIfInBounds_toArray, List.set_cons_zero, List.set_cons_succ, i64_w, i32_w]
              rfl
            refine pure_ (i := 10) (N := some 47) (v := ?_) (a' := ?_) #[true, true, true, true, true, true, true, true, true, true, true, false, false] rfl rfl (any_of HT_.out (by kernel_rfl)) (fun _ _ _ h => h) (Or.inl ⟨by rfl, ?_⟩) ?_ ?_
            rotate_left
            · intro w'
              go_simp
              with_reducible rfl
            rotate_left
            · simp only [Act.put, List.setIfInBounds_toArray, List.set_cons_zero, List.set_cons_succ, i64_w, i32_w]
              rfl
            refine pure_ (i := 11) (N := some 7) (v := ?_) (a' := ?_) #[true, true, true, true, true, true, true, true, true, true, true, true, false] rfl rfl (any_of HT_.out (by kernel_rfl)) (fun _ _ _ h => h) (Or.inl ⟨by rfl, ?_⟩) ?_ ?_
            rotate_left
            · intro w'
              go_simp
              with_reducible rfl
            rotate_left
            · simp only [Act.put, List.setIfInBounds_toArray, List.set_cons_zero, List.set_cons_succ, i64_w, i32_w]
              rfl
            refine pure_ (i := 12) (N := some 8) (v := ?_) (a' := ?_) #[true, true, true, true, true, true, true, true, true, true, true, true, true] rfl rfl (any_of HT_.out (by kernel_rfl)) (fun _ _ _ h => h) (Or.inl ⟨by rfl, ?_⟩) ?_ ?_
            rotate_left
            · intro w'
              go_simp
              with_reducible rfl
            rotate_left
            · simp only [Act.put, List.setIfInBounds_toArray, List.set_cons_zero, List.set_cons_succ, i64_w, i32_w]
              rfl
            refine done_ (done_of HT_.out (by kernel_rfl)) ?_
            go_upto_region 9 with (fail)
            go_cut [55] (fun v55 wc => ∃ (kq : Nat) (x55_23 : Bool), v55 = .bool x55_23 ∧ Aside0 (midrangelaw04_SegmentReads.j1 kq x55_23 l0_0 a0_1 a1_0 a1_1 a1_2 a1_3 t527 t530 = some r) ∧ Aside0 (kq ≤ kj4) ∧ Aside0 (Kd.R k56 56 wc w.heap.size (fun _ => True) (.slice Ao31 t527.length co31) t527) ∧ Aside0 (wc.heap[gb519]? = some (.cells #[(.slice A0_0 l0_0.length c0_0), .int .i64 a0_1] 24 (0, 0))) ∧ Aside0 (wc.heap[gb520]? = some (.cells #[.int .i64 a1_0, .int .i64 a1_1, .int .i64 a1_2, .string a1_3] 48 (0, 0))) ∧ Aside0 (wc.heap[gb532]? = some (.cells #[(.slice Ao31 t527.length co31), .int .i64 t530] 24 (0, 0))) ∧ Aside0 (Below w.heap.size w wc))
            case first =>
              have H := HC24.out
              clear HC24
              by_cases c39 : t538 = 0
              · rw [if_pos c39] at H
                have c39b0 : (t538 == 0) = true := beq_iff_eq.mpr c39
                have c39b1 : (t538 != 0) = false := bne_eq_false_iff_eq.mpr c39
                clear c39
                (first | rw [c39b0] | (simp only [i64_w, i32_w]; rw [c39b0]) | skip)
                have H' := Aside0.mk H
                clear H
                have hnb40 := NB520_519.out
                have hnc40 := NB519_520.out
                have hnb41 := NB520_532.out
                have hnc41 := NB532_520.out
                have hcz42_0 : w38.cell? ⟨gb520, 0, none⟩ = some (.int .i64 a1_0) := (blk_cell BK520.out 0).trans rfl
                have hcz42_1 : w38.cell? ⟨gb520, 1, none⟩ = some (.int .i64 a1_1) := (blk_cell BK520.out 1).trans rfl
                have hcz42_2 : w38.cell? ⟨gb520, 2, none⟩ = some (.int .i64 a1_2) := (blk_cell BK520.out 2).trans rfl
                have hcz42_3 : w38.cell? ⟨gb520, 3, none⟩ = some (.string a1_3) := (blk_cell BK520.out 3).trans rfl
                have hfz42_0 := blk_frozen BK520.out 0
                have hfz42_1 := blk_frozen BK520.out 1
                have hfz42_2 := blk_frozen BK520.out 2
                have hfz42_3 := blk_frozen BK520.out 3
                go_wp2
                go_meet
                case rel => exact ⟨_, ((t537.toList != a1_3.toList)), (by first | rfl | (simp; done) | (simp [*]; done)), H', ⟨by have := HJ4.out; first | omega | exact Nat.le_refl _⟩, ⟨by (with_reducible repeat (first | apply Kd.R_alloc | apply Kd.R_drewN | apply Kd.R_drew)); exact Kd.R_mono HO529.out (fun _ hk => trivial)⟩, ⟨by (with_reducible repeat (first | refine blk_drewN ?_ _ | refine blk_drew ?_ | refine blk_alloc ?_ _)); exact BK519.out⟩, ⟨by (with_reducible repeat (first | refine blk_drewN ?_ _ | refine blk_drew ?_ | refine blk_alloc ?_ _)); exact BK520.out⟩, ⟨by (with_reducible repeat (first | refine blk_drewN ?_ _ | refine blk_drew ?_ | refine blk_alloc ?_ _)); exact BK532.out⟩, ⟨by repeat (first | (with_reducible first | exact HB.out | apply below_alloc | apply pw_below_drewN | apply below_drew1 | refine below_set ?_ GE519.out | refine below_set ?_ GE520.out | refine below_set ?_ GE532.out) | exact HB.out)⟩⟩
              · rw [if_neg c39] at H
                have c39b0 : (t538 == 0) = false := beq_eq_false_iff_ne.mpr c39
                have c39b1 : (t538 != 0) = true := bne_iff_ne.mpr c39
                (first | rw [c39b0] | (simp only [i64_w, i32_w]; rw [c39b0]) | skip)
                have H' := Aside0.mk H
                clear H
                go_wp2
                go_meet
                case rel => exact ⟨_, (true), (by first | rfl | (simp; done) | (simp [*]; done)), H', ⟨by have := HJ4.out; first | omega | exact Nat.le_refl _⟩, ⟨by (with_reducible repeat (first | apply Kd.R_alloc | apply Kd.R_drewN | apply Kd.R_drew)); exact Kd.R_mono HO529.out (fun _ hk => trivial)⟩, ⟨by (with_reducible repeat (first | refine blk_drewN ?_ _ | refine blk_drew ?_ | refine blk_alloc ?_ _)); exact BK519.out⟩, ⟨by (with_reducible repeat (first | refine blk_drewN ?_ _ | refine blk_drew ?_ | refine blk_alloc ?_ _)); exact BK520.out⟩, ⟨by (with_reducible repeat (first | refine blk_drewN ?_ _ | refine blk_drew ?_ | refine blk_alloc ?_ _)); exact BK532.out⟩, ⟨by repeat (first | (with_reducible first | exact HB.out | apply below_alloc | apply pw_below_drewN | apply below_drew1 | refine below_set ?_ GE519.out | refine below_set ?_ GE520.out | refine below_set ?_ GE532.out) | exact HB.out)⟩⟩
            case rest =>
              clear HC24
              try clear c1
              try clear c2
              try clear p2
              try clear c3
              try clear c4
              try clear c13
              try clear c26
              try clear c27
              try clear c39
              try clear c39b0
              try clear c39b1
              try clear c40
              try clear c41
              try clear hcz42_0
              try clear hcz42_1
              try clear hcz42_2
              try clear hcz42_3
              try clear hfz42_0
              try clear hfz42_1
              try clear hfz42_2
              try clear hfz42_3
              obtain ⟨kq, x55_23, rfl, HA, HJ23, HO_533000, BK519, BK520, BK532, HB⟩ := hcut
              cases kq with
              | zero => exact absurd HA.out (by simp [midrangelaw04_SegmentReads.j1])
              | succ kj23 =>
                have H := HA.out
                clear HA
                simp only [midrangelaw04_SegmentReads.j1] at H
                by_cases c43 : x55_23 = true
                · subst c43
                  have H1 : (some false) = some r := by rw [if_pos rfl] at H; exact H
                  clear H
                  have H := H1
                  clear H1
                  obtain rfl := Option.some.inj H
                  go_wp2
                  go_ret
                  exact ⟨by first | rfl | (simp [errW_none, errW_some] <;> rfl) | (simp [*, errW_none, errW_some] <;> rfl), by repeat (first | (with_reducible first | exact HB.out | apply below_alloc | apply pw_below_drewN | apply below_drew1 | refine below_set ?_ GE519.out | refine below_set ?_ GE520.out | refine below_set ?_ GE532.out) | exact HB.out)⟩
                · replace c43 := Bool.eq_false_iff.mpr c43
                  subst c43
                  have H1 : (midrangelaw04_SegmentReads.l0 kj23 0 l0_0 a0_1 a1_0 a1_1 a1_2 a1_3 t527 t530) = some r := by rw [if_neg (show ¬ (false = true) by decide)] at H; exact H
                  clear H
                  have H := H1
                  clear H1
                  have H' := Aside0.mk H
                  clear H
                  go_wp2
                  go_loopg [9] kj23 (fun kq v9 w' => ∃ (x9_3 : Int), v9 = .int .i64 x9_3 ∧ Aside0 (midrangelaw04_SegmentReads.l0 kq x9_3 l0_0 a0_1 a1_0 a1_1 a1_2 a1_3 t527 t530 = some r) ∧ Aside0 (kq ≤ kj23) ∧ Aside0 (Kd.R k56 56 w' w.heap.size (fun _ => True) (.slice Ao31 t527.length co31) t527) ∧ Aside0 (w'.heap[gb519]? = some (.cells #[(.slice A0_0 l0_0.length c0_0), .int .i64 a0_1] 24 (0, 0))) ∧ Aside0 (w'.heap[gb520]? = some (.cells #[.int .i64 a1_0, .int .i64 a1_1, .int .i64 a1_2, .string a1_3] 48 (0, 0))) ∧ Aside0 (w'.heap[gb532]? = some (.cells #[(.slice Ao31 t527.length co31), .int .i64 t530] 24 (0, 0))) ∧ Aside0 (Below w.heap.size w w'))
                  case atStart => exact ⟨(0), (by first | rfl | (simp; done) | (simp [*]; done)), H', ⟨Nat.le_refl _⟩, ⟨by (with_reducible repeat (first | apply Kd.R_alloc | apply Kd.R_drewN | apply Kd.R_drew)); exact HO_533000.out⟩, ⟨by (with_reducible repeat (first | refine blk_drewN ?_ _ | refine blk_drew ?_ | refine blk_alloc ?_ _)); exact BK519.out⟩, ⟨by (with_reducible repeat (first | refine blk_drewN ?_ _ | refine blk_drew ?_ | refine blk_alloc ?_ _)); exact BK520.out⟩, ⟨by (with_reducible repeat (first | refine blk_drewN ?_ _ | refine blk_drew ?_ | refine blk_alloc ?_ _)); exact BK532.out⟩, ⟨by repeat (first | (with_reducible first | exact HB.out | apply below_alloc | apply pw_below_drewN | apply below_drew1 | refine below_set ?_ GE519.out | refine below_set ?_ GE520.out | refine below_set ?_ GE532.out) | exact HB.out)⟩⟩
                  case round =>
                    clear H'
                    try clear c1
                    try clear c2
                    try clear p2
                    try clear c3
                    try clear c4
                    try clear c13
                    try clear c26
                    try clear c27
                    try clear c39
                    try clear c39b0
                    try clear c39b1
                    try clear c40
                    try clear c41
                    try clear c43
                    try clear hcz42_0
                    try clear hcz42_1
                    try clear hcz42_2
                    try clear hcz42_3
                    try clear hfz42_0
                    try clear hfz42_1
                    try clear hfz42_2
                    try clear hfz42_3
                    try clear p2
                    obtain ⟨x9_3, rfl, HA, HK3, HO_533000, BK519, BK520, BK532, HB⟩ := hrel
                    cases gk with
                    | zero => exact absurd HA.out (by simp [midrangelaw04_SegmentReads.l0])
                    | succ k3 =>
                      have H := HA.out
                      clear HA
                      simp only [midrangelaw04_SegmentReads.l0] at H
                      by_cases c44 : x9_3 < (l0_0.length : Int)
                      · rw [if_pos c44] at H
                        have c44b0 : decide (x9_3 < (l0_0.length : Int)) = true := decide_eq_true c44
                        clear c44
                        by_cases c45 : 0 ≤ x9_3
                        · rw [if_pos c45] at H
                          have c45b0 : decide (0 ≤ x9_3) = true := decide_eq_true c45
                          clear c45
                          have H' := Aside0.mk H
                          clear H
                          have hnb46 := NB519_520.out
                          have hnc46 := NB520_519.out
                          have hnb47 := NB519_532.out
                          have hnc47 := NB532_519.out
                          have hcz48_0 : wr.cell? ⟨gb519, 0, none⟩ = some (.slice A0_0 l0_0.length c0_0) := (blk_cell BK519.out 0).trans rfl
                          have hcz48_1 : wr.cell? ⟨gb519, 1, none⟩ = some (.int .i64 a0_1) := (blk_cell BK519.out 1).trans rfl
                          have hfz48_0 := blk_frozen BK519.out 0
                          have hfz48_1 := blk_frozen BK519.out 1
                          have p539 : 0 ≤ (x9_3 : Int) := of_decide_eq_true (by first | (with_reducible assumption) | assumption)
                          have q539 : x9_3 < (l0_0.length : Int) := of_decide_eq_true (by first | (with_reducible assumption) | assumption)
                          obtain ⟨ad539, e539, hx539_0, hx539_1⟩ := at_T56 HR0_0.out x9_3 p539 q539
                          cases e539
                          replace hx539_0 := (HB.out.cell (World.block_lt_of_cell? w _ hx539_0)).trans hx539_0
                          replace hx539_1 := (HB.out.cell (World.block_lt_of_cell? w _ hx539_1)).trans hx539_1
                          replace p539 := eq_true p539
                          replace q539 := eq_true q539
                          go_wp2_with (first | ((with_reducible refine gate_dst (N := 10) rfl ?_); (try (refine gate_guard (by rfl) ?_; dsimp only)); refine box_event ?hg (N := 10) ?hd (cs := #[.int .i64 0, .string (⟨#[]⟩ : ByteArray)]) (t := 56) ?hr ?_; (case hd => rfl); (case hg => rfl); (case hr => first | (go_simp; done) | (go_simp; rfl)); intro gb540 hg w49 hbox hb; have n0_ := Aside0.mk (Kd.R_below (Kd.R_elderB (by (with_reducible repeat (first | apply Kd.R_alloc | apply Kd.R_drewN | apply Kd.R_drew)); exact HO_533000.out) gb540 (Nat.le_of_eq hg.symm)) hb); have n1_ := Aside0.mk (blk_below (g := gb519) (o := .cells #[.slice (some ad539) l0_0.length c0_0, .int .i64 a0_1] 24 (0, 0)) (by (with_reducible repeat (first | refine blk_drewN ?_ _ | refine blk_drew ?_ | refine blk_alloc ?_ _)); exact BK519.out) hb); have n2_ := Aside0.mk (blk_below (g := gb520) (o := .cells #[.int .i64 a1_0, .int .i64 a1_1, .int .i64 a1_2, .string a1_3] 48 (0, 0)) (by (with_reducible repeat (first | refine blk_drewN ?_ _ | refine blk_drew ?_ | refine blk_alloc ?_ _)); exact BK520.out) hb); have n3_ := Aside0.mk (blk_below (g := gb532) (o := .cells #[.slice Ao31 t527.length co31, .int .i64 t530] 24 (0, 0)) (by (with_reducible repeat (first | refine blk_drewN ?_ _ | refine blk_drew ?_ | refine blk_alloc ?_ _)); exact BK532.out) hb); have n4_ := Aside0.mk (below_step (by repeat (first | (with_reducible first | exact HB.out | apply below_alloc | apply pw_below_drewN | apply below_drew1 | refine below_set ?_ GE519.out | refine below_set ?_ GE520.out | refine below_set ?_ GE532.out) | exact HB.out)) hb); have n5_ := Aside0.mk (hbox); have n6_ := Aside0.mk ((by rw [hg]; exact (below_size (by repeat (first | (with_reducible first | exact HB.out | apply below_alloc | apply pw_below_drewN | apply below_drew1 | refine below_set ?_ GE519.out | refine below_set ?_ GE520.out | refine below_set ?_ GE532.out) | exact HB.out))) : w.heap.size ≤ gb540)); have n7_ := Aside0.mk ((by rw [hg]; exact (below_size (by repeat (first | (with_reducible first | exact HB.out | apply below_alloc | apply pw_below_drewN | apply below_drew1 | refine below_set ?_ GE519.out | refine below_set ?_ GE520.out | refine below_set ?_ GE532.out) | exact HB.out))) : w.heap.size ≤ gb540)); have n8_ := Aside0.mk ((by rw [hg]; exact Nat.ne_of_lt (blk_lt (g := gb519) (o := .cells #[.slice (some ad539) l0_0.length c0_0, .int .i64 a0_1] 24 (0, 0)) (by (with_reducible repeat (first | refine blk_drewN ?_ _ | refine blk_drew ?_ | refine blk_alloc ?_ _)); exact BK519.out)) : gb519 ≠ gb540)); have n9_ := Aside0.mk ((by rw [hg]; exact Nat.ne_of_gt (blk_lt (g := gb519) (o := .cells #[.slice (some ad539) l0_0.length c0_0, .int .i64 a0_1] 24 (0, 0)) (by (with_reducible repeat (first | refine blk_drewN ?_ _ | refine blk_drew ?_ | refine blk_alloc ?_ _)); exact BK519.out)) : gb540 ≠ gb519)); have n10_ := Aside0.mk ((by rw [hg]; exact Nat.ne_of_lt (blk_lt (g := gb520) (o := .cells #[.int .i64 a1_0, .int .i64 a1_1, .int .i64 a1_2, .string a1_3] 48 (0, 0)) (by (with_reducible repeat (first | refine blk_drewN ?_ _ | refine blk_drew ?_ | refine blk_alloc ?_ _)); exact BK520.out)) : gb520 ≠ gb540)); have n11_ := Aside0.mk ((by rw [hg]; exact Nat.ne_of_gt (blk_lt (g := gb520) (o := .cells #[.int .i64 a1_0, .int .i64 a1_1, .int .i64 a1_2, .string a1_3] 48 (0, 0)) (by (with_reducible repeat (first | refine blk_drewN ?_ _ | refine blk_drew ?_ | refine blk_alloc ?_ _)); exact BK520.out)) : gb540 ≠ gb520)); have n12_ := Aside0.mk ((by rw [hg]; exact Nat.ne_of_lt (blk_lt (g := gb532) (o := .cells #[.slice Ao31 t527.length co31, .int .i64 t530] 24 (0, 0)) (by (with_reducible repeat (first | refine blk_drewN ?_ _ | refine blk_drew ?_ | refine blk_alloc ?_ _)); exact BK532.out)) : gb532 ≠ gb540)); have n13_ := Aside0.mk ((by rw [hg]; exact Nat.ne_of_gt (blk_lt (g := gb532) (o := .cells #[.slice Ao31 t527.length co31, .int .i64 t530] 24 (0, 0)) (by (with_reducible repeat (first | refine blk_drewN ?_ _ | refine blk_drew ?_ | refine blk_alloc ?_ _)); exact BK532.out)) : gb540 ≠ gb532)); clear HO_533000; clear BK519; clear BK520; clear BK532; clear HB; have HO_533000 := n0_; have BK519 := n1_; have BK520 := n2_; have BK532 := n3_; have HB := n4_; have BK540 := n5_; have GW540 := n6_; have GE540 := n7_; have NB519_540 := n8_; have NB540_519 := n9_; have NB520_540 := n10_; have NB540_520 := n11_; have NB532_540 := n12_; have NB540_532 := n13_; clear n0_ n1_ n2_ n3_ n4_ n5_ n6_ n7_ n8_ n9_ n10_ n11_ n12_ n13_; clear hb hbox hg; have hnb50 := NB540_519.out; have hnc50 := NB519_540.out; have hnb51 := NB540_520.out; have hnc51 := NB520_540.out; have hnb52 := NB540_532.out; have hnc52 := NB532_540.out; have hcz53_0 : w49.cell? ⟨gb540, 0, none⟩ = some (.int .i64 0) := (blk_cell BK540.out 0).trans rfl; have hcz53_1 : w49.cell? ⟨gb540, 1, none⟩ = some (.string (⟨#[]⟩ : ByteArray)) := (blk_cell BK540.out 1).trans rfl; have hfz53_0 := blk_frozen BK540.out 0; have hfz53_1 := blk_frozen BK540.out 1))
                          go_loopg [11] k3 (fun kq v11 w' => ∃ (x11_4 : Int), v11 = .int .i64 x11_4 ∧ Aside0 (midrangelaw04_SegmentReads.l1 kq x9_3 x11_4 l0_0 a0_1 a1_0 a1_1 a1_2 a1_3 t527 t530 ((rd_T56 l0_0 x9_3).f0) ((rd_T56 l0_0 x9_3).f1) = some r) ∧ Aside0 (kq ≤ k3) ∧ Aside0 (Kd.R k56 56 w' w.heap.size (fun k_ => k_ ≠ gb540) (.slice Ao31 t527.length co31) t527) ∧ Aside0 (w'.heap[gb519]? = some (.cells #[(.slice (some ad539) l0_0.length c0_0), .int .i64 a0_1] 24 (0, 0))) ∧ Aside0 (w'.heap[gb520]? = some (.cells #[.int .i64 a1_0, .int .i64 a1_1, .int .i64 a1_2, .string a1_3] 48 (0, 0))) ∧ Aside0 (w'.heap[gb532]? = some (.cells #[(.slice Ao31 t527.length co31), .int .i64 t530] 24 (0, 0))) ∧ Aside0 (w'.heap[gb540]? = some (.cells #[.int .i64 ((rd_T56 l0_0 x9_3).f0), .string ((rd_T56 l0_0 x9_3).f1)] 56 (0, 0))) ∧ Aside0 (Below w.heap.size w w'))
                          case atStart => exact ⟨(0), (by first | rfl | (simp; done) | (simp [*]; done)), H', ⟨Nat.le_refl _⟩, ⟨by (with_reducible repeat (first | apply Kd.R_alloc | apply Kd.R_drewN | apply Kd.R_drew)); exact Kd.R_mono (Kd.R_far (p := ⟨gb540, 1, none⟩) (Kd.R_far (p := ⟨gb540, 0, none⟩) (Kd.R_mono HO_533000.out (fun k_ hk => (⟨hk, hk.2⟩ : _ ∧ k_ ≠ gb540))) (fun _ hk => hk.2) (.int .i64 ((rd_T56 l0_0 x9_3).f0))) (fun _ hk => hk.2) (.string ((rd_T56 l0_0 x9_3).f1))) (fun _ hk => hk.1.2)⟩, ⟨by (with_reducible repeat (first | refine blk_drewN ?_ _ | refine blk_drew ?_ | refine blk_alloc ?_ _)); refine blk_far ?_ NB519_540.out _; (with_reducible repeat (first | refine blk_drewN ?_ _ | refine blk_drew ?_ | refine blk_alloc ?_ _)); refine blk_far ?_ NB519_540.out _; (with_reducible repeat (first | refine blk_drewN ?_ _ | refine blk_drew ?_ | refine blk_alloc ?_ _)); exact BK519.out⟩, ⟨by (with_reducible repeat (first | refine blk_drewN ?_ _ | refine blk_drew ?_ | refine blk_alloc ?_ _)); refine blk_far ?_ NB520_540.out _; (with_reducible repeat (first | refine blk_drewN ?_ _ | refine blk_drew ?_ | refine blk_alloc ?_ _)); refine blk_far ?_ NB520_540.out _; (with_reducible repeat (first | refine blk_drewN ?_ _ | refine blk_drew ?_ | refine blk_alloc ?_ _)); exact BK520.out⟩, ⟨by (with_reducible repeat (first | refine blk_drewN ?_ _ | refine blk_drew ?_ | refine blk_alloc ?_ _)); refine blk_far ?_ NB532_540.out _; (with_reducible repeat (first | refine blk_drewN ?_ _ | refine blk_drew ?_ | refine blk_alloc ?_ _)); refine blk_far ?_ NB532_540.out _; (with_reducible repeat (first | refine blk_drewN ?_ _ | refine blk_drew ?_ | refine blk_alloc ?_ _)); exact BK532.out⟩, ⟨by (with_reducible repeat (first | refine blk_drewN ?_ _ | refine blk_drew ?_ | refine blk_alloc ?_ _)); refine blk_put (cs := #[.int .i64 ((rd_T56 l0_0 x9_3).f0), .string (⟨#[]⟩ : ByteArray)]) ?_ 1 _ rfl; (with_reducible repeat (first | refine blk_drewN ?_ _ | refine blk_drew ?_ | refine blk_alloc ?_ _)); refine blk_put (cs := #[.int .i64 0, .string (⟨#[]⟩ : ByteArray)]) ?_ 0 _ rfl; (with_reducible repeat (first | refine blk_drewN ?_ _ | refine blk_drew ?_ | refine blk_alloc ?_ _)); exact BK540.out⟩, ⟨by repeat (first | (with_reducible first | exact HB.out | apply below_alloc | apply pw_below_drewN | apply below_drew1 | refine below_set ?_ GE519.out | refine below_set ?_ GE520.out | refine below_set ?_ GE532.out | refine below_set ?_ GE540.out) | exact HB.out)⟩⟩
                          case round =>
                            clear H'
                            try clear c1
                            try clear c2
                            try clear p2
                            try clear c3
                            try clear c4
                            try clear c5
                            try clear p5
                            try clear q5
                            try clear hx5
                            try clear c13
                            try clear c26
                            try clear c27
                            try clear c39
                            try clear c39b0
                            try clear c39b1
                            try clear c40
                            try clear c41
                            try clear c43
                            try clear c44
                            try clear c44b0
                            try clear c45
                            try clear c45b0
                            try clear c46
                            try clear c47
                            try clear c50
                            try clear c51
                            try clear c52
                            try clear p53
                            try clear q53
                            try clear hx53
                            try clear hcz42_0
                            try clear hcz42_1
                            try clear hcz42_2
                            try clear hcz42_3
                            try clear hcz48_0
                            try clear hcz48_1
                            try clear hcz53_0
                            try clear hcz53_1
                            try clear hfz42_0
                            try clear hfz42_1
                            try clear hfz42_2
                            try clear hfz42_3
                            try clear hfz48_0
                            try clear hfz48_1
                            try clear hfz53_0
                            try clear hfz53_1
                            try clear hx539_0
                            try clear hx539_1
                            try clear p2
                            try clear p539
                            try clear q539
                            obtain ⟨x11_4, rfl, HA, HK4, HO_533000, BK519, BK520, BK532, BK540, HB⟩ := hrel
                            cases gk with
                            | zero => exact absurd HA.out (by simp [midrangelaw04_SegmentReads.l1])
                            | succ k4 =>
                              have H := HA.out
                              clear HA
                              simp only [midrangelaw04_SegmentReads.l1] at H
                              by_cases c54 : x11_4 < (((rd_T56 l0_0 x9_3).f1).size : Int)
                              · rw [if_pos c54] at H
                                have c54b0 : decide (x11_4 < (((rd_T56 l0_0 x9_3).f1).size : Int)) = true := decide_eq_true c54
                                clear c54
                                have HC55 := Aside0.mk H
                                clear H
                                have hnb56 := NB540_519.out
                                have hnc56 := NB519_540.out
                                have hnb57 := NB540_520.out
                                have hnc57 := NB520_540.out
                                have hnb58 := NB540_532.out
                                have hnc58 := NB532_540.out
                                have hcz59_0 : wr.cell? ⟨gb540, 0, none⟩ = some (.int .i64 ((rd_T56 l0_0 x9_3).f0)) := (blk_cell BK540.out 0).trans rfl
                                have hcz59_1 : wr.cell? ⟨gb540, 1, none⟩ = some (.string ((rd_T56 l0_0 x9_3).f1)) := (blk_cell BK540.out 1).trans rfl
                                have hfz59_0 := blk_frozen BK540.out 0
                                have hfz59_1 := blk_frozen BK540.out 1
                                go_upto_region 18 with (fail)
                                go_cut [95] (fun v95 wc => ∃ (kq : Nat) (x95_54 : Bool), v95 = .bool x95_54 ∧ Aside0 (midrangelaw04_SegmentReads.j4 kq x9_3 x11_4 x95_54 l0_0 a0_1 a1_0 a1_1 a1_2 a1_3 t527 t530 ((rd_T56 l0_0 x9_3).f0) ((rd_T56 l0_0 x9_3).f1) = some r) ∧ Aside0 (kq ≤ k4) ∧ Aside0 (Kd.R k56 56 wc w.heap.size (fun k_ => k_ ≠ gb540) (.slice Ao31 t527.length co31) t527) ∧ Aside0 (wc.heap[gb519]? = some (.cells #[(.slice (some ad539) l0_0.length c0_0), .int .i64 a0_1] 24 (0, 0))) ∧ Aside0 (wc.heap[gb520]? = some (.cells #[.int .i64 a1_0, .int .i64 a1_1, .int .i64 a1_2, .string a1_3] 48 (0, 0))) ∧ Aside0 (wc.heap[gb532]? = some (.cells #[(.slice Ao31 t527.length co31), .int .i64 t530] 24 (0, 0))) ∧ Aside0 (wc.heap[gb540]? = some (.cells #[.int .i64 ((rd_T56 l0_0 x9_3).f0), .string ((rd_T56 l0_0 x9_3).f1)] 56 (0, 0))) ∧ Aside0 (Below w.heap.size w wc))
                                case first =>
                                  have H := HC55.out
                                  clear HC55
                                  by_cases c60 : ((rd_T56 l0_0 x9_3).f0) = a1_0
                                  · rw [if_pos c60] at H
                                    have c60b0 : (((rd_T56 l0_0 x9_3).f0) == a1_0) = true := beq_iff_eq.mpr c60
                                    have c60b1 : (((rd_T56 l0_0 x9_3).f0) != a1_0) = false := bne_eq_false_iff_eq.mpr c60
                                    clear c60
                                    (first | rw [c60b0] | (simp only [i64_w, i32_w]; rw [c60b0]) | skip)
                                    replace H := Option.bind_eq_some_iff.mp H
                                    obtain ⟨t541, A610, H⟩ := H
                                    replace H : (midrangelaw04_SegmentReads.j4 k4 x9_3 x11_4 t541 l0_0 a0_1 a1_0 a1_1 a1_2 a1_3 t527 t530 ((rd_T56 l0_0 x9_3).f0) ((rd_T56 l0_0 x9_3).f1)) = some r := H
                                    have A61 := Aside0.mk A610
                                    clear A610
                                    have H' := Aside0.mk H
                                    clear H
                                    have hnb62 := NB540_519.out
                                    have hnc62 := NB519_540.out
                                    have hnb63 := NB540_520.out
                                    have hnc63 := NB520_540.out
                                    have hnb64 := NB540_532.out
                                    have hnc64 := NB532_540.out
                                    have hcz65_0 : wr.cell? ⟨gb540, 0, none⟩ = some (.int .i64 ((rd_T56 l0_0 x9_3).f0)) := (blk_cell BK540.out 0).trans rfl
                                    have hcz65_1 : wr.cell? ⟨gb540, 1, none⟩ = some (.string ((rd_T56 l0_0 x9_3).f1)) := (blk_cell BK540.out 1).trans rfl
                                    have hfz65_0 := blk_frozen BK540.out 0
                                    have hfz65_1 := blk_frozen BK540.out 1
                                    have hnb66 := NB520_519.out
                                    have hnc66 := NB519_520.out
                                    have hnb67 := NB520_532.out
                                    have hnc67 := NB532_520.out
                                    have hcz68_0 : wr.cell? ⟨gb520, 0, none⟩ = some (.int .i64 a1_0) := (blk_cell BK520.out 0).trans rfl
                                    have hcz68_1 : wr.cell? ⟨gb520, 1, none⟩ = some (.int .i64 a1_1) := (blk_cell BK520.out 1).trans rfl
                                    have hcz68_2 : wr.cell? ⟨gb520, 2, none⟩ = some (.int .i64 a1_2) := (blk_cell BK520.out 2).trans rfl
                                    have hcz68_3 : wr.cell? ⟨gb520, 3, none⟩ = some (.string a1_3) := (blk_cell BK520.out 3).trans rfl
                                    have hfz68_0 := blk_frozen BK520.out 0
                                    have hfz68_1 := blk_frozen BK520.out 1
                                    have hfz68_2 := blk_frozen BK520.out 2
                                    have hfz68_3 := blk_frozen BK520.out 3
                                    go_wp2_with (first | (go_at_call 30; (with_reducible refine (midrangebase_Within.calls x11_4 a1_1 (wrap64 ((wrap64 (a1_1 + (a1_3.size : Int))) - 1)) t541 _ A61.out).mono ?_); rintro e w' ⟨rfl, ⟨nd, rfl⟩⟩))
                                    go_meet
                                    case rel => exact ⟨_, (t541), (by first | rfl | (simp; done) | (simp [*]; done)), H', ⟨by have := HJ4.out; have := HJ23.out; have := HK3.out; have := HK4.out; first | omega | exact Nat.le_refl _⟩, ⟨by (with_reducible repeat (first | apply Kd.R_alloc | apply Kd.R_drewN | apply Kd.R_drew)); exact HO_533000.out⟩, ⟨by (with_reducible repeat (first | refine blk_drewN ?_ _ | refine blk_drew ?_ | refine blk_alloc ?_ _)); exact BK519.out⟩, ⟨by (with_reducible repeat (first | refine blk_drewN ?_ _ | refine blk_drew ?_ | refine blk_alloc ?_ _)); exact BK520.out⟩, ⟨by (with_reducible repeat (first | refine blk_drewN ?_ _ | refine blk_drew ?_ | refine blk_alloc ?_ _)); exact BK532.out⟩, ⟨by (with_reducible repeat (first | refine blk_drewN ?_ _ | refine blk_drew ?_ | refine blk_alloc ?_ _)); exact BK540.out⟩, ⟨by repeat (first | (with_reducible first | exact HB.out | apply below_alloc | apply pw_below_drewN | apply below_drew1 | refine below_set ?_ GE519.out | refine below_set ?_ GE520.out | refine below_set ?_ GE532.out | refine below_set ?_ GE540.out) | exact HB.out)⟩⟩
                                  · rw [if_neg c60] at H
                                    have c60b0 : (((rd_T56 l0_0 x9_3).f0) == a1_0) = false := beq_eq_false_iff_ne.mpr c60
                                    have c60b1 : (((rd_T56 l0_0 x9_3).f0) != a1_0) = true := bne_iff_ne.mpr c60
                                    (first | rw [c60b0] | (simp only [i64_w, i32_w]; rw [c60b0]) | skip)
                                    have H' := Aside0.mk H
                                    clear H
                                    have hnb69 := NB540_519.out
                                    have hnc69 := NB519_540.out
                                    have hnb70 := NB540_520.out
                                    have hnc70 := NB520_540.out
                                    have hnb71 := NB540_532.out
                                    have hnc71 := NB532_540.out
                                    have hcz72_0 : wr.cell? ⟨gb540, 0, none⟩ = some (.int .i64 ((rd_T56 l0_0 x9_3).f0)) := (blk_cell BK540.out 0).trans rfl
                                    have hcz72_1 : wr.cell? ⟨gb540, 1, none⟩ = some (.string ((rd_T56 l0_0 x9_3).f1)) := (blk_cell BK540.out 1).trans rfl
                                    have hfz72_0 := blk_frozen BK540.out 0
                                    have hfz72_1 := blk_frozen BK540.out 1
                                    have hnb73 := NB520_519.out
                                    have hnc73 := NB519_520.out
                                    have hnb74 := NB520_532.out
                                    have hnc74 := NB532_520.out
                                    have hcz75_0 : wr.cell? ⟨gb520, 0, none⟩ = some (.int .i64 a1_0) := (blk_cell BK520.out 0).trans rfl
                                    have hcz75_1 : wr.cell? ⟨gb520, 1, none⟩ = some (.int .i64 a1_1) := (blk_cell BK520.out 1).trans rfl
                                    have hcz75_2 : wr.cell? ⟨gb520, 2, none⟩ = some (.int .i64 a1_2) := (blk_cell BK520.out 2).trans rfl
                                    have hcz75_3 : wr.cell? ⟨gb520, 3, none⟩ = some (.string a1_3) := (blk_cell BK520.out 3).trans rfl
                                    have hfz75_0 := blk_frozen BK520.out 0
                                    have hfz75_1 := blk_frozen BK520.out 1
                                    have hfz75_2 := blk_frozen BK520.out 2
                                    have hfz75_3 := blk_frozen BK520.out 3
                                    go_wp2
                                    go_meet
                                    case rel => exact ⟨_, (false), (by first | rfl | (simp; done) | (simp [*]; done)), H', ⟨by have := HJ4.out; have := HJ23.out; have := HK3.out; have := HK4.out; first | omega | exact Nat.le_refl _⟩, ⟨by (with_reducible repeat (first | apply Kd.R_alloc | apply Kd.R_drewN | apply Kd.R_drew)); exact HO_533000.out⟩, ⟨by (with_reducible repeat (first | refine blk_drewN ?_ _ | refine blk_drew ?_ | refine blk_alloc ?_ _)); exact BK519.out⟩, ⟨by (with_reducible repeat (first | refine blk_drewN ?_ _ | refine blk_drew ?_ | refine blk_alloc ?_ _)); exact BK520.out⟩, ⟨by (with_reducible repeat (first | refine blk_drewN ?_ _ | refine blk_drew ?_ | refine blk_alloc ?_ _)); exact BK532.out⟩, ⟨by (with_reducible repeat (first | refine blk_drewN ?_ _ | refine blk_drew ?_ | refine blk_alloc ?_ _)); exact BK540.out⟩, ⟨by repeat (first | (with_reducible first | exact HB.out | apply below_alloc | apply pw_below_drewN | apply below_drew1 | refine below_set ?_ GE519.out | refine below_set ?_ GE520.out | refine below_set ?_ GE532.out | refine below_set ?_ GE540.out) | exact HB.out)⟩⟩
                                case rest =>
                                  clear HC55
                                  try clear c1
                                  try clear c2
                                  try clear p2
                                  try clear c3
                                  try clear c4
                                  try clear c5
                                  try clear p5
                                  try clear q5
                                  try clear hx5
                                  try clear c6
                                  try clear p6
                                  try clear c7
                                  try clear c13
                                  try clear c26
                                  try clear c27
                                  try clear c39
                                  try clear c39b0
                                  try clear c39b1
                                  try clear c40
                                  try clear c41
                                  try clear c43
                                  try clear c44
                                  try clear c44b0
                                  try clear c45
                                  try clear c45b0
                                  try clear c46
                                  try clear c47
                                  try clear c50
                                  try clear c51
                                  try clear c52
                                  try clear p53
                                  try clear q53
                                  try clear hx53
                                  try clear c54
                                  try clear c54b0
                                  try clear c56
                                  try clear c57
                                  try clear c58
                                  try clear c60
                                  try clear c60b0
                                  try clear c60b1
                                  try clear c62
                                  try clear c63
                                  try clear c64
                                  try clear p64
                                  try clear c66
                                  try clear c67
                                  try clear c69
                                  try clear c70
                                  try clear c71
                                  try clear c73
                                  try clear c74
                                  try clear hcz42_0
                                  try clear hcz42_1
                                  try clear hcz42_2
                                  try clear hcz42_3
                                  try clear hcz48_0
                                  try clear hcz48_1
                                  try clear hcz53_0
                                  try clear hcz53_1
                                  try clear hcz59_0
                                  try clear hcz59_1
                                  try clear hcz65_0
                                  try clear hcz65_1
                                  try clear hcz68_0
                                  try clear hcz68_1
                                  try clear hcz68_2
                                  try clear hcz68_3
                                  try clear hcz72_0
                                  try clear hcz72_1
                                  try clear hcz75_0
                                  try clear hcz75_1
                                  try clear hcz75_2
                                  try clear hcz75_3
                                  try clear hfz42_0
                                  try clear hfz42_1
                                  try clear hfz42_2
                                  try clear hfz42_3
                                  try clear hfz48_0
                                  try clear hfz48_1
                                  try clear hfz53_0
                                  try clear hfz53_1
                                  try clear hfz59_0
                                  try clear hfz59_1
                                  try clear hfz65_0
                                  try clear hfz65_1
                                  try clear hfz68_0
                                  try clear hfz68_1
                                  try clear hfz68_2
                                  try clear hfz68_3
                                  try clear hfz72_0
                                  try clear hfz72_1
                                  try clear hfz75_0
                                  try clear hfz75_1
                                  try clear hfz75_2
                                  try clear hfz75_3
                                  try clear hx539_0
                                  try clear hx539_1
                                  try clear p2
                                  try clear p5
                                  try clear p53
                                  try clear p539
                                  try clear q5
                                  try clear q53
                                  try clear q539
                                  obtain ⟨kq, x95_54, rfl, HA, HJ54, HO_533000, BK519, BK520, BK532, BK540, HB⟩ := hcut
                                  cases kq with
                                  | zero => exact absurd HA.out (by simp [midrangelaw04_SegmentReads.j4])
                                  | succ kj54 =>
                                    have H := HA.out
                                    clear HA
                                    simp only [midrangelaw04_SegmentReads.j4] at H
                                    by_cases c76 : x95_54 = true
                                    · subst c76
                                      have H1 : (midrangelaw04_SegmentReads.l1 kj54 x9_3 (wrap64 (x11_4 + 1)) l0_0 a0_1 a1_0 a1_1 a1_2 a1_3 t527 t530 ((rd_T56 l0_0 x9_3).f0) ((rd_T56 l0_0 x9_3).f1)) = some r := by rw [if_pos rfl] at H; exact H
                                      clear H
                                      have H := H1
                                      clear H1
                                      have H' := Aside0.mk H
                                      clear H
                                      go_wp2
                                      go_roundg kj54
                                      case measure => have := HJ4.out; have := HJ23.out; have := HK3.out; have := HK4.out; have := HJ54.out; omega
                                      case rel => exact ⟨(wrap64 (x11_4 + 1)), (by first | rfl | (simp; done) | (simp [*]; done)), H', ⟨by have := HJ4.out; have := HJ23.out; have := HK3.out; have := HK4.out; have := HJ54.out; omega⟩, ⟨by (with_reducible repeat (first | apply Kd.R_alloc | apply Kd.R_drewN | apply Kd.R_drew)); exact HO_533000.out⟩, ⟨by (with_reducible repeat (first | refine blk_drewN ?_ _ | refine blk_drew ?_ | refine blk_alloc ?_ _)); exact BK519.out⟩, ⟨by (with_reducible repeat (first | refine blk_drewN ?_ _ | refine blk_drew ?_ | refine blk_alloc ?_ _)); exact BK520.out⟩, ⟨by (with_reducible repeat (first | refine blk_drewN ?_ _ | refine blk_drew ?_ | refine blk_alloc ?_ _)); exact BK532.out⟩, ⟨by (with_reducible repeat (first | refine blk_drewN ?_ _ | refine blk_drew ?_ | refine blk_alloc ?_ _)); exact BK540.out⟩, ⟨by repeat (first | (with_reducible first | exact HB.out | apply below_alloc | apply pw_below_drewN | apply below_drew1 | refine below_set ?_ GE519.out | refine below_set ?_ GE520.out | refine below_set ?_ GE532.out | refine below_set ?_ GE540.out) | exact HB.out)⟩⟩
                                    · replace c76 := Bool.eq_false_iff.mpr c76
                                      subst c76
                                      have H1 : ((midrangeref04_Own.f t527 t530).bind fun bt542 => ((segment_ReadAt.f kj54 bt542.1 bt542.2 ((rd_T56 l0_0 x9_3).f0) x11_4 1).bind fun bt546 => (if bt546.2 = 0 then (if 0 ≤ x11_4 then (if x11_4 ≤ (wrap64 (x11_4 + 1)) then (if (wrap64 (x11_4 + 1)) ≤ (((rd_T56 l0_0 x9_3).f1).size : Int) then (midrangelaw04_SegmentReads.j5 kj54 x9_3 x11_4 (bt546.1.toList != (((rd_T56 l0_0 x9_3).f1).extract (x11_4 : Int).toNat ((wrap64 (x11_4 + 1)) : Int).toNat).toList) l0_0 a0_1 a1_0 a1_1 a1_2 a1_3 t527 t530 ((rd_T56 l0_0 x9_3).f0) ((rd_T56 l0_0 x9_3).f1)) else (none)) else (none)) else (none)) else (midrangelaw04_SegmentReads.j5 kj54 x9_3 x11_4 true l0_0 a0_1 a1_0 a1_1 a1_2 a1_3 t527 t530 ((rd_T56 l0_0 x9_3).f0) ((rd_T56 l0_0 x9_3).f1))))) = some r := by rw [if_neg (show ¬ (false = true) by decide)] at H; exact H
                                      clear H
                                      have H := H1
                                      clear H1
                                      replace H := Option.bind_eq_some_iff.mp H
                                      obtain ⟨⟨t542, t545⟩, A770, H⟩ := H
                                      replace H : ((segment_ReadAt.f kj54 t542 t545 ((rd_T56 l0_0 x9_3).f0) x11_4 1).bind fun bt546 => (if bt546.2 = 0 then (if 0 ≤ x11_4 then (if x11_4 ≤ (wrap64 (x11_4 + 1)) then (if (wrap64 (x11_4 + 1)) ≤ (((rd_T56 l0_0 x9_3).f1).size : Int) then (midrangelaw04_SegmentReads.j5 kj54 x9_3 x11_4 (bt546.1.toList != (((rd_T56 l0_0 x9_3).f1).extract (x11_4 : Int).toNat ((wrap64 (x11_4 + 1)) : Int).toNat).toList) l0_0 a0_1 a1_0 a1_1 a1_2 a1_3 t527 t530 ((rd_T56 l0_0 x9_3).f0) ((rd_T56 l0_0 x9_3).f1)) else (none)) else (none)) else (none)) else (midrangelaw04_SegmentReads.j5 kj54 x9_3 x11_4 true l0_0 a0_1 a1_0 a1_1 a1_2 a1_3 t527 t530 ((rd_T56 l0_0 x9_3).f0) ((rd_T56 l0_0 x9_3).f1)))) = some r := H
                                      have A77 := Aside0.mk A770
                                      clear A770
                                      replace H := Option.bind_eq_some_iff.mp H
                                      obtain ⟨⟨t546, t547⟩, A780, H⟩ := H
                                      replace H : (if t547 = 0 then (if 0 ≤ x11_4 then (if x11_4 ≤ (wrap64 (x11_4 + 1)) then (if (wrap64 (x11_4 + 1)) ≤ (((rd_T56 l0_0 x9_3).f1).size : Int) then (midrangelaw04_SegmentReads.j5 kj54 x9_3 x11_4 (t546.toList != (((rd_T56 l0_0 x9_3).f1).extract (x11_4 : Int).toNat ((wrap64 (x11_4 + 1)) : Int).toNat).toList) l0_0 a0_1 a1_0 a1_1 a1_2 a1_3 t527 t530 ((rd_T56 l0_0 x9_3).f0) ((rd_T56 l0_0 x9_3).f1)) else (none)) else (none)) else (none)) else (midrangelaw04_SegmentReads.j5 kj54 x9_3 x11_4 true l0_0 a0_1 a1_0 a1_1 a1_2 a1_3 t527 t530 ((rd_T56 l0_0 x9_3).f0) ((rd_T56 l0_0 x9_3).f1))) = some r := H
                                      have A78 := Aside0.mk A780
                                      clear A780
                                      have HC79 := Aside0.mk H
                                      clear H
                                      try go_wp2
                                      have n0_ := Aside0.mk (Kd.R_drew HO_533000.out)
                                      have n1_ := Aside0.mk (blk_drew BK519.out)
                                      have n2_ := Aside0.mk (blk_drew BK520.out)
                                      have n3_ := Aside0.mk (blk_drew BK532.out)
                                      have n4_ := Aside0.mk (blk_drew BK540.out)
                                      have n5_ := Aside0.mk (below_drew1 HB.out)
                                      clear HO_533000
                                      clear BK519
                                      clear BK520
                                      clear BK532
                                      clear BK540
                                      clear HB
                                      have HO_533000 := n0_
                                      have BK519 := n1_
                                      have BK520 := n2_
                                      have BK532 := n3_
                                      have BK540 := n4_
                                      have HB := n5_
                                      clear n0_ n1_ n2_ n3_ n4_ n5_
                                      refine start_ (n := 12) (S := fun w' => w'.cell? ⟨gb532, 0, none⟩ = some (.slice Ao31 t527.length co31) ∧ w'.cell? ⟨gb532, 1, none⟩ = some (.int .i64 t530) ∧ w'.cell? ⟨gb540, 0, none⟩ = some (.int .i64 ((rd_T56 l0_0 x9_3).f0)) ∧ w'.cell? ⟨gb540, 1, none⟩ = some (.string ((rd_T56 l0_0 x9_3).f1))) (ds := []) #[false, false, false, false, false, false, false, false, false, false, false, false] (by kernel_rfl) rfl rfl ⟨(blk_cell BK532.out 0).trans rfl, (blk_cell BK532.out 1).trans rfl, (blk_cell BK540.out 0).trans rfl, (blk_cell BK540.out 1).trans rfl⟩ (fun hHeld => ?_); refine with_tabW midrangelaw04_SegmentReads.tab19 midrangelaw04_SegmentReads.bits19 (fun HT_ HW_ => ?_)
                                      generalize wc.drew = w80 at HO_533000 BK519 BK520 BK532 BK540 HB hHeld ⊢
                                      refine pure_ (i := 2) (N := some 99) (v := ?_) (a' := ?_) #[false, false, true, false, false, false, false, false, false, false, false, false] rfl rfl (any_of HT_.out (by kernel_rfl)) (fun _ _ _ h => h) (Or.inl ⟨by rfl, ?_⟩) ?_ ?_
                                      rotate_left
                                      · intro w'
                                        go_simp
                                        with_reducible rfl
                                      rotate_left
                                      · simp only [Act.put, List.setIfInBounds_toArray, List.set_cons_zero, List.set_cons_succ, i64_w, i32_w]
                                        rfl
                                      refine pure_ (i := 4) (N := some 101) (v := ?_) (a' := ?_) #[false, false, true, false, true, false, false, false, false, false, false, false] rfl rfl (any_of HT_.out (by kernel_rfl)) (fun _ _ _ h => h) (Or.inl ⟨by rfl, ?_⟩) ?_ ?_
                                      rotate_left
                                      · intro w'
                                        go_simp
                                        with_reducible rfl
                                      rotate_left
                                      · simp only [Act.put, List.setIfInBounds_toArray, List.set_cons_zero, List.set_cons_succ, i64_w, i32_w]
                                        rfl
                                      refine take_ (i := 0) (N := some 97) (v := ?_) (a' := ?_) #[true, false, true, false, true, false, false, false, false, false, false, false] rfl rfl (take_ofW HT_.out HW_.out (by kernel_rfl)) (fun _ _ _ h => h) (Or.inl ⟨by rfl, ?_⟩) hHeld ?_ ?_
                                      rotate_left
                                      · rintro w' ⟨s0, s1, s2, s3⟩
                                        go_simp
                                        with_reducible rfl
                                      rotate_left
                                      · simp only [Act.put, List.setIfInBounds_toArray, List.set_cons_zero, List.set_cons_succ, i64_w, i32_w]
                                        rfl
                                      refine take_ (i := 3) (N := some 100) (v := ?_) (a' := ?_) #[true, false, true, true, true, false, false, false, false, false, false, false] rfl rfl (take_ofW HT_.out HW_.out (by kernel_rfl)) (fun _ _ _ h => h) (Or.inl ⟨by rfl, ?_⟩) hHeld ?_ ?_
                                      rotate_left
                                      · rintro w' ⟨s0, s1, s2, s3⟩
                                        go_simp
                                        with_reducible rfl
                                      rotate_left
                                      · simp only [Act.put, List.setIfInBounds_toArray, List.set_cons_zero, List.set_cons_succ, i64_w, i32_w]
                                        rfl
                                      refine pure_ (i := 5) (N := some 102) (v := ?_) (a' := ?_) #[true, false, true, true, true, true, false, false, false, false, false, false] rfl rfl (any_of HT_.out (by kernel_rfl)) (fun _ _ _ h => h) (Or.inl ⟨by rfl, ?_⟩) ?_ ?_
                                      rotate_left
                                      · intro w'
                                        go_simp
                                        with_reducible rfl
                                      rotate_left
                                      · simp only [Act.put, List.setIfInBounds_toArray, List.set_cons_zero, List.set_cons_succ, i64_w, i32_w]
                                        rfl
                                      refine one_ (i := 1) (N := some 98) #[true, true, true, true, true, true, false, false, false, false, false, false] rfl rfl (one_of HT_.out (by kernel_rfl)) (by decide) (fun K hK => ?_)
                                      refine goes_ Try.func13 (by kernel_rfl) rfl #[.agg #[.slice Ao31 t527.length co31, .int .i64 t530]] (by rfl) rfl rfl (by (try simp only [List.map_toArray, List.map_cons, List.map_nil]); first | done | rfl | (simp only [List.length_drop, List.length_take]; rfl)) ?_
                                      with_reducible refine (midrangeref04_Own.calls _ _ t527 t530 t542 t545 _ ?side1 ?side2 A77.out).mono ?_
                                      (case side1 => repeat (first | exact (Kd.R_reads' HO_533000.out).2.2 | (with_reducible refine Kd.C_alloc ?_ _) | (with_reducible refine Kd.C_drewN ?_ _) | (with_reducible refine Kd.C_drew ?_)))
                                      (case side2 => exact (Kd.R_reads' HO_533000.out).2.1)
                                      rintro e w81 ⟨v543, rfl, ho0, hb⟩
                                      refine ⟨_, rfl, ?_⟩
                                      have n0_ := Aside0.mk (Kd.R_elder' (by (with_reducible repeat (first | apply Kd.R_alloc | apply Kd.R_drewN | apply Kd.R_drew)); exact HO_533000.out) (Kd.R_base ho0) hb)
                                      have n1_ := Aside0.mk (Kd.R_lower (Kd.R_newB (Kd.R_new' ho0 (Kd.R_lt (by (with_reducible repeat (first | apply Kd.R_alloc | apply Kd.R_drewN | apply Kd.R_drew)); exact HO_533000.out))) (g := gb540) (o := .cells #[.int .i64 ((rd_T56 l0_0 x9_3).f0), .string ((rd_T56 l0_0 x9_3).f1)] 56 (0, 0)) (by (with_reducible repeat (first | refine blk_drewN ?_ _ | refine blk_drew ?_ | refine blk_alloc ?_ _)); exact BK540.out)) (below_size (by repeat (first | (with_reducible first | exact HB.out | apply below_alloc | apply pw_below_drewN | apply below_drew1 | refine below_set ?_ GE519.out | refine below_set ?_ GE520.out | refine below_set ?_ GE532.out | refine below_set ?_ GE540.out) | exact HB.out))))
                                      have n2_ := Aside0.mk (blk_below (g := gb519) (o := .cells #[.slice (some ad539) l0_0.length c0_0, .int .i64 a0_1] 24 (0, 0)) (by (with_reducible repeat (first | refine blk_drewN ?_ _ | refine blk_drew ?_ | refine blk_alloc ?_ _)); exact BK519.out) hb)
                                      have n3_ := Aside0.mk (blk_below (g := gb520) (o := .cells #[.int .i64 a1_0, .int .i64 a1_1, .int .i64 a1_2, .string a1_3] 48 (0, 0)) (by (with_reducible repeat (first | refine blk_drewN ?_ _ | refine blk_drew ?_ | refine blk_alloc ?_ _)); exact BK520.out) hb)
                                      have n4_ := Aside0.mk (blk_below (g := gb532) (o := .cells #[.slice Ao31 t527.length co31, .int .i64 t530] 24 (0, 0)) (by (with_reducible repeat (first | refine blk_drewN ?_ _ | refine blk_drew ?_ | refine blk_alloc ?_ _)); exact BK532.out) hb)
                                      have n5_ := Aside0.mk (blk_below (g := gb540) (o := .cells #[.int .i64 ((rd_T56 l0_0 x9_3).f0), .string ((rd_T56 l0_0 x9_3).f1)] 56 (0, 0)) (by (with_reducible repeat (first | refine blk_drewN ?_ _ | refine blk_drew ?_ | refine blk_alloc ?_ _)); exact BK540.out) hb)
                                      have n6_ := Aside0.mk (below_step (by repeat (first | (with_reducible first | exact HB.out | apply below_alloc | apply pw_below_drewN | apply below_drew1 | refine below_set ?_ GE519.out | refine below_set ?_ GE520.out | refine below_set ?_ GE532.out | refine below_set ?_ GE540.out) | exact HB.out)) hb)
                                      clear HO_533000
                                      clear BK519
                                      clear BK520
                                      clear BK532
                                      clear BK540
                                      clear HB
                                      have HO_533000 := n0_
                                      have HO544 := n1_
                                      have BK519 := n2_
                                      have BK520 := n3_
                                      have BK532 := n4_
                                      have BK540 := n5_
                                      have HB := n6_
                                      clear n0_ n1_ n2_ n3_ n4_ n5_ n6_
                                      (try clear hb)
                                      (try clear hb2)
                                      (try clear hk)
                                      (try clear hi)
                                      (try clear ho0)
                                      obtain ⟨Ao82, co82, eo82⟩ := Kd.R_slice HO544.out
                                      (first | subst eo82 | (injection eo82 with f1_ f2_ f3_; have f4_ := f1_.symm; have f5_ := f3_.symm; clear f1_ f2_ f3_; subst f4_; subst f5_))
                                      refine hK.out _ _ ⟨(blk_cell BK532.out 0).trans rfl, (blk_cell BK532.out 1).trans rfl, (blk_cell BK540.out 0).trans rfl, (blk_cell BK540.out 1).trans rfl⟩ (fun hHeld => ?_)
                                      clear hK K
                                      refine norm_ (a' := ?_) ?_ ?_
                                      rotate_left
                                      · show Act.put _ (some 98) _ = _
                                        simp only [Act.put, List.setIfInBounds_toArray, List.set_cons_zero, List.set_cons_succ, i64_w, i32_w]
                                        rfl
                                      refine one_ (i := 6) (N := some 103) #[true, true, true, true, true, true, true, false, false, false, false, false] rfl rfl (one_of HT_.out (by kernel_rfl)) (by decide) (fun K hK => ?_)
                                      refine goes_ Try.func26 (by kernel_rfl) rfl #[.agg #[.slice Ao82 t542.length co82, .int .i64 t545], .agg #[.int .i64 ((rd_T56 l0_0 x9_3).f0), .int .i64 x11_4], .int .i64 1] (by rfl) rfl rfl (by (try simp only [List.map_toArray, List.map_cons, List.map_nil]); first | done | rfl | (simp only [List.length_drop, List.length_take]; rfl)) ?_
                                      with_reducible refine (segment_ReadAt.calls kj54 _ _ t542 t545 ((rd_T56 l0_0 x9_3).f0) x11_4 1 t546 t547 _ ?side1 ?side2 A78.out).mono ?_
                                      (case side1 => repeat (first | exact (Kd.R_reads' HO544.out).2.2 | (with_reducible refine Kd.C_alloc ?_ _) | (with_reducible refine Kd.C_drewN ?_ _) | (with_reducible refine Kd.C_drew ?_)))
                                      (case side2 => exact (Kd.R_reads' HO544.out).2.1)
                                      rintro e w83 ⟨rfl, hb⟩
                                      refine ⟨_, rfl, ?_⟩
                                      have n0_ := Aside0.mk (Kd.R_below (by (with_reducible repeat (first | apply Kd.R_alloc | apply Kd.R_drewN | apply Kd.R_drew)); exact HO_533000.out) hb)
                                      have n1_ := Aside0.mk (Kd.R_below (by (with_reducible repeat (first | apply Kd.R_alloc | apply Kd.R_drewN | apply Kd.R_drew)); exact HO544.out) hb)
                                      have n2_ := Aside0.mk (blk_below (g := gb519) (o := .cells #[.slice (some ad539) l0_0.length c0_0, .int .i64 a0_1] 24 (0, 0)) (by (with_reducible repeat (first | refine blk_drewN ?_ _ | refine blk_drew ?_ | refine blk_alloc ?_ _)); exact BK519.out) hb)
                                      have n3_ := Aside0.mk (blk_below (g := gb520) (o := .cells #[.int .i64 a1_0, .int .i64 a1_1, .int .i64 a1_2, .string a1_3] 48 (0, 0)) (by (with_reducible repeat (first | refine blk_drewN ?_ _ | refine blk_drew ?_ | refine blk_alloc ?_ _)); exact BK520.out) hb)
                                      have n4_ := Aside0.mk (blk_below (g := gb532) (o := .cells #[.slice Ao31 t527.length co31, .int .i64 t530] 24 (0, 0)) (by (with_reducible repeat (first | refine blk_drewN ?_ _ | refine blk_drew ?_ | refine blk_alloc ?_ _)); exact BK532.out) hb)
                                      have n5_ := Aside0.mk (blk_below (g := gb540) (o := .cells #[.int .i64 ((rd_T56 l0_0 x9_3).f0), .string ((rd_T56 l0_0 x9_3).f1)] 56 (0, 0)) (by (with_reducible repeat (first | refine blk_drewN ?_ _ | refine blk_drew ?_ | refine blk_alloc ?_ _)); exact BK540.out) hb)
                                      have n6_ := Aside0.mk (below_step (by repeat (first | (with_reducible first | exact HB.out | apply below_alloc | apply pw_below_drewN | apply below_drew1 | refine below_set ?_ GE519.out | refine below_set ?_ GE520.out | refine below_set ?_ GE532.out | refine below_set ?_ GE540.out) | exact HB.out)) hb)
                                      clear HO_533000
                                      clear HO544
                                      clear BK519
                                      clear BK520
                                      clear BK532
                                      clear BK540
                                      clear HB
                                      have HO_533000 := n0_
                                      have HO544 := n1_
                                      have BK519 := n2_
                                      have BK520 := n3_
                                      have BK532 := n4_
                                      have BK540 := n5_
                                      have HB := n6_
                                      clear n0_ n1_ n2_ n3_ n4_ n5_ n6_
                                      (try clear hb)
                                      (try clear hb2)
                                      (try clear hk)
                                      (try clear hi)
                                      refine hK.out _ _ ⟨(blk_cell BK532.out 0).trans rfl, (blk_cell BK532.out 1).trans rfl, (blk_cell BK540.out 0).trans rfl, (blk_cell BK540.out 1).trans rfl⟩ (fun hHeld => ?_)
                                      clear hK K
                                      refine norm_ (a' := ?_) ?_ ?_
                                      rotate_left
                                      · show Act.put _ (some 103) _ = _
                                        simp only [Act.put, List.setIfInBounds_toArray, List.set_cons_zero, List.set_cons_succ, i64_w, i32_w]
                                        rfl
                                      refine pure_ (i := 7) (N := some 96) (v := ?_) (a' := ?_) #[true, true, true, true, true, true, true, true, false, false, false, false] rfl rfl (any_of HT_.out (by kernel_rfl)) (fun _ _ _ h => h) (Or.inl ⟨by rfl, ?_⟩) ?_ ?_
                                      rotate_left
                                      · intro w'
                                        go_simp
                                        with_reducible rfl
                                      rotate_left
                                      · simp only [Act.put, List.setIfInBounds_toArray, List.set_cons_zero, List.set_cons_succ, i64_w, i32_w]
                                        rfl
                                      refine pure_ (i := 8) (N := some 104) (v := ?_) (a' := ?_) #[true, true, true, true, true, true, true, true, true, false, false, false] rfl rfl (any_of HT_.out (by kernel_rfl)) (fun _ _ _ h => h) (Or.inl ⟨by rfl, ?_⟩) ?_ ?_
                                      rotate_left
                                      · intro w'
                                        go_simp
                                        with_reducible rfl
                                      rotate_left
                                      · simp only [Act.put, List.setIfInBounds_toArray, List.set_cons_zero, List.set_cons_succ, i64_w, i32_w]
                                        rfl
                                      refine pure_ (i := 9) (N := some 105) (v := ?_) (a' := ?_) #[true, true, true, true, true, true, true, true, true, true, false, false] rfl rfl (any_of HT_.out (by kernel_rfl)) (fun _ _ _ h => h) (Or.inl ⟨by rfl, ?_⟩) ?_ ?_
                                      rotate_left
                                      · intro w'
                                        go_simp
                                        with_reducible rfl
                                      rotate_left
                                      · simp only [Act.put, List.setIfInBounds_toArray, List.set_cons_zero, List.set_cons_succ, i64_w, i32_w]
                                        rfl
                                      refine pure_ (i := 10) (N := some 12) (v := ?_) (a' := ?_) #[true, true, true, true, true, true, true, true, true, true, true, false] rfl rfl (any_of HT_.out (by kernel_rfl)) (fun _ _ _ h => h) (Or.inl ⟨by rfl, ?_⟩) ?_ ?_
                                      rotate_left
                                      · intro w'
                                        go_simp
                                        with_reducible rfl
                                      rotate_left
                                      · simp only [Act.put, List.setIfInBounds_toArray, List.set_cons_zero, List.set_cons_succ, i64_w, i32_w]
                                        rfl
                                      refine pure_ (i := 11) (N := some 13) (v := ?_) (a' := ?_) #[true, true, true, true, true, true, true, true, true, true, true, true] rfl rfl (any_of HT_.out (by kernel_rfl)) (fun _ _ _ h => h) (Or.inl ⟨by rfl, ?_⟩) ?_ ?_
                                      rotate_left
                                      · intro w'
                                        go_simp
                                        with_reducible rfl
                                      rotate_left
                                      · simp only [Act.put, List.setIfInBounds_toArray, List.set_cons_zero, List.set_cons_succ, i64_w, i32_w]
                                        rfl
                                      refine done_ (done_of HT_.out (by kernel_rfl)) ?_
                                      go_upto_region 20 with (fail)
                                      go_cut [117] (fun v117 wc => ∃ (kq : Nat) (x117_78 : Bool), v117 = .bool x117_78 ∧ Aside0 (midrangelaw04_SegmentReads.j5 kq x9_3 x11_4 x117_78 l0_0 a0_1 a1_0 a1_1 a1_2 a1_3 t527 t530 ((rd_T56 l0_0 x9_3).f0) ((rd_T56 l0_0 x9_3).f1) = some r) ∧ Aside0 (kq ≤ kj54) ∧ Aside0 (Kd.R k56 56 wc w.heap.size (fun k_ => k_ ≠ gb540) (.slice Ao31 t527.length co31) t527) ∧ Aside0 (wc.heap[gb519]? = some (.cells #[(.slice (some ad539) l0_0.length c0_0), .int .i64 a0_1] 24 (0, 0))) ∧ Aside0 (wc.heap[gb520]? = some (.cells #[.int .i64 a1_0, .int .i64 a1_1, .int .i64 a1_2, .string a1_3] 48 (0, 0))) ∧ Aside0 (wc.heap[gb532]? = some (.cells #[(.slice Ao31 t527.length co31), .int .i64 t530] 24 (0, 0))) ∧ Aside0 (wc.heap[gb540]? = some (.cells #[.int .i64 ((rd_T56 l0_0 x9_3).f0), .string ((rd_T56 l0_0 x9_3).f1)] 56 (0, 0))) ∧ Aside0 (Below w.heap.size w wc))
                                      case first =>
                                        have H := HC79.out
                                        clear HC79
                                        by_cases c84 : t547 = 0
                                        · rw [if_pos c84] at H
                                          have c84b0 : (t547 == 0) = true := beq_iff_eq.mpr c84
                                          have c84b1 : (t547 != 0) = false := bne_eq_false_iff_eq.mpr c84
                                          clear c84
                                          (first | rw [c84b0] | (simp only [i64_w, i32_w]; rw [c84b0]) | skip)
                                          by_cases c85 : 0 ≤ x11_4
                                          · rw [if_pos c85] at H
                                            have c85b0 := eq_true c85
                                            have c85b1 : decide (0 ≤ x11_4) = true := decide_eq_true c85
                                            clear c85
                                            by_cases c86 : x11_4 ≤ (wrap64 (x11_4 + 1))
                                            · rw [if_pos c86] at H
                                              have c86b0 := eq_true c86
                                              have c86b1 : decide (x11_4 ≤ (wrap64 (x11_4 + 1))) = true := decide_eq_true c86
                                              by_cases c87 : (wrap64 (x11_4 + 1)) ≤ (((rd_T56 l0_0 x9_3).f1).size : Int)
                                              · rw [if_pos c87] at H
                                                have c87b0 := eq_true c87
                                                have c87b1 : decide ((wrap64 (x11_4 + 1)) ≤ (((rd_T56 l0_0 x9_3).f1).size : Int)) = true := decide_eq_true c87
                                                have H' := Aside0.mk H
                                                clear H
                                                have hnb88 := NB540_519.out
                                                have hnc88 := NB519_540.out
                                                have hnb89 := NB540_520.out
                                                have hnc89 := NB520_540.out
                                                have hnb90 := NB540_532.out
                                                have hnc90 := NB532_540.out
                                                have hcz91_0 : w83.cell? ⟨gb540, 0, none⟩ = some (.int .i64 ((rd_T56 l0_0 x9_3).f0)) := (blk_cell BK540.out 0).trans rfl
                                                have hcz91_1 : w83.cell? ⟨gb540, 1, none⟩ = some (.string ((rd_T56 l0_0 x9_3).f1)) := (blk_cell BK540.out 1).trans rfl
                                                have hfz91_0 := blk_frozen BK540.out 0
                                                have hfz91_1 := blk_frozen BK540.out 1
                                                go_wp2
                                                go_meet
                                                case rel => exact ⟨_, ((t546.toList != (((rd_T56 l0_0 x9_3).f1).extract (x11_4 : Int).toNat ((wrap64 (x11_4 + 1)) : Int).toNat).toList)), (by first | rfl | (simp; done) | (simp [*]; done)), H', ⟨by have := HJ4.out; have := HJ23.out; have := HK3.out; have := HK4.out; have := HJ54.out; first | omega | exact Nat.le_refl _⟩, ⟨by (with_reducible repeat (first | apply Kd.R_alloc | apply Kd.R_drewN | apply Kd.R_drew)); exact Kd.R_mono HO_533000.out (fun _ hk => hk.1)⟩, ⟨by (with_reducible repeat (first | refine blk_drewN ?_ _ | refine blk_drew ?_ | refine blk_alloc ?_ _)); exact BK519.out⟩, ⟨by (with_reducible repeat (first | refine blk_drewN ?_ _ | refine blk_drew ?_ | refine blk_alloc ?_ _)); exact BK520.out⟩, ⟨by (with_reducible repeat (first | refine blk_drewN ?_ _ | refine blk_drew ?_ | refine blk_alloc ?_ _)); exact BK532.out⟩, ⟨by (with_reducible repeat (first | refine blk_drewN ?_ _ | refine blk_drew ?_ | refine blk_alloc ?_ _)); exact BK540.out⟩, ⟨by repeat (first | (with_reducible first | exact HB.out | apply below_alloc | apply pw_below_drewN | apply below_drew1 | refine below_set ?_ GE519.out | refine below_set ?_ GE520.out | refine below_set ?_ GE532.out | refine below_set ?_ GE540.out) | exact HB.out)⟩⟩
                                              · rw [if_neg c87] at H
                                                exact absurd H (by simp)
                                            · rw [if_neg c86] at H
                                              exact absurd H (by simp)
                                          · rw [if_neg c85] at H
                                            exact absurd H (by simp)
                                        · rw [if_neg c84] at H
                                          have c84b0 : (t547 == 0) = false := beq_eq_false_iff_ne.mpr c84
                                          have c84b1 : (t547 != 0) = true := bne_iff_ne.mpr c84
                                          (first | rw [c84b0] | (simp only [i64_w, i32_w]; rw [c84b0]) | skip)
                                          have H' := Aside0.mk H
                                          clear H
                                          go_wp2
                                          go_meet
                                          case rel => exact ⟨_, (true), (by first | rfl | (simp; done) | (simp [*]; done)), H', ⟨by have := HJ4.out; have := HJ23.out; have := HK3.out; have := HK4.out; have := HJ54.out; first | omega | exact Nat.le_refl _⟩, ⟨by (with_reducible repeat (first | apply Kd.R_alloc | apply Kd.R_drewN | apply Kd.R_drew)); exact Kd.R_mono HO_533000.out (fun _ hk => hk.1)⟩, ⟨by (with_reducible repeat (first | refine blk_drewN ?_ _ | refine blk_drew ?_ | refine blk_alloc ?_ _)); exact BK519.out⟩, ⟨by (with_reducible repeat (first | refine blk_drewN ?_ _ | refine blk_drew ?_ | refine blk_alloc ?_ _)); exact BK520.out⟩, ⟨by (with_reducible repeat (first | refine blk_drewN ?_ _ | refine blk_drew ?_ | refine blk_alloc ?_ _)); exact BK532.out⟩, ⟨by (with_reducible repeat (first | refine blk_drewN ?_ _ | refine blk_drew ?_ | refine blk_alloc ?_ _)); exact BK540.out⟩, ⟨by repeat (first | (with_reducible first | exact HB.out | apply below_alloc | apply pw_below_drewN | apply below_drew1 | refine below_set ?_ GE519.out | refine below_set ?_ GE520.out | refine below_set ?_ GE532.out | refine below_set ?_ GE540.out) | exact HB.out)⟩⟩
                                      case rest =>
                                        clear HC79
                                        try clear c1
                                        try clear c2
                                        try clear p2
                                        try clear c3
                                        try clear c4
                                        try clear c5
                                        try clear p5
                                        try clear q5
                                        try clear hx5
                                        try clear c6
                                        try clear p6
                                        try clear c7
                                        try clear c8
                                        try clear c9
                                        try clear c13
                                        try clear c26
                                        try clear c27
                                        try clear c39
                                        try clear c39b0
                                        try clear c39b1
                                        try clear c40
                                        try clear c41
                                        try clear c43
                                        try clear c44
                                        try clear c44b0
                                        try clear c45
                                        try clear c45b0
                                        try clear c46
                                        try clear c47
                                        try clear c50
                                        try clear c51
                                        try clear c52
                                        try clear p53
                                        try clear q53
                                        try clear hx53
                                        try clear c54
                                        try clear c54b0
                                        try clear c56
                                        try clear c57
                                        try clear c58
                                        try clear c60
                                        try clear c60b0
                                        try clear c60b1
                                        try clear c62
                                        try clear c63
                                        try clear c64
                                        try clear p64
                                        try clear c66
                                        try clear c67
                                        try clear c69
                                        try clear c70
                                        try clear c71
                                        try clear c73
                                        try clear c74
                                        try clear c76
                                        try clear c84
                                        try clear c84b0
                                        try clear c84b1
                                        try clear c85
                                        try clear c85b0
                                        try clear c85b1
                                        try clear c86
                                        try clear c86b0
                                        try clear c86b1
                                        try clear c87
                                        try clear c87b0
                                        try clear c87b1
                                        try clear c88
                                        try clear c89
                                        try clear c90
                                        try clear hcz42_0
                                        try clear hcz42_1
                                        try clear hcz42_2
                                        try clear hcz42_3
                                        try clear hcz48_0
                                        try clear hcz48_1
                                        try clear hcz53_0
                                        try clear hcz53_1
                                        try clear hcz59_0
                                        try clear hcz59_1
                                        try clear hcz65_0
                                        try clear hcz65_1
                                        try clear hcz68_0
                                        try clear hcz68_1
                                        try clear hcz68_2
                                        try clear hcz68_3
                                        try clear hcz72_0
                                        try clear hcz72_1
                                        try clear hcz75_0
                                        try clear hcz75_1
                                        try clear hcz75_2
                                        try clear hcz75_3
                                        try clear hcz91_0
                                        try clear hcz91_1
                                        try clear hfz42_0
                                        try clear hfz42_1
                                        try clear hfz42_2
                                        try clear hfz42_3
                                        try clear hfz48_0
                                        try clear hfz48_1
                                        try clear hfz53_0
                                        try clear hfz53_1
                                        try clear hfz59_0
                                        try clear hfz59_1
                                        try clear hfz65_0
                                        try clear hfz65_1
                                        try clear hfz68_0
                                        try clear hfz68_1
                                        try clear hfz68_2
                                        try clear hfz68_3
                                        try clear hfz72_0
                                        try clear hfz72_1
                                        try clear hfz75_0
                                        try clear hfz75_1
                                        try clear hfz75_2
                                        try clear hfz75_3
                                        try clear hfz91_0
                                        try clear hfz91_1
                                        try clear hx539_0
                                        try clear hx539_1
                                        try clear p2
                                        try clear p5
                                        try clear p53
                                        try clear p539
                                        try clear p6
                                        try clear p64
                                        try clear q5
                                        try clear q53
                                        try clear q539
                                        obtain ⟨kq, x117_78, rfl, HA, HJ78, HO_533000, BK519, BK520, BK532, BK540, HB⟩ := hcut
                                        cases kq with
                                        | zero => exact absurd HA.out (by simp [midrangelaw04_SegmentReads.j5])
                                        | succ kj78 =>
                                          have H := HA.out
                                          clear HA
                                          simp only [midrangelaw04_SegmentReads.j5] at H
                                          by_cases c92 : x117_78 = true
                                          · subst c92
                                            have H1 : (some false) = some r := by rw [if_pos rfl] at H; exact H
                                            clear H
                                            have H := H1
                                            clear H1
                                            obtain rfl := Option.some.inj H
                                            go_wp2
                                            go_ret
                                            exact ⟨by first | rfl | (simp [errW_none, errW_some] <;> rfl) | (simp [*, errW_none, errW_some] <;> rfl), by repeat (first | (with_reducible first | exact HB.out | apply below_alloc | apply pw_below_drewN | apply below_drew1 | refine below_set ?_ GE519.out | refine below_set ?_ GE520.out | refine below_set ?_ GE532.out | refine below_set ?_ GE540.out) | exact HB.out)⟩
                                          · replace c92 := Bool.eq_false_iff.mpr c92
                                            subst c92
                                            have H1 : (midrangelaw04_SegmentReads.l1 kj78 x9_3 (wrap64 (x11_4 + 1)) l0_0 a0_1 a1_0 a1_1 a1_2 a1_3 t527 t530 ((rd_T56 l0_0 x9_3).f0) ((rd_T56 l0_0 x9_3).f1)) = some r := by rw [if_neg (show ¬ (false = true) by decide)] at H; exact H
                                            clear H
                                            have H := H1
                                            clear H1
                                            have H' := Aside0.mk H
                                            clear H
                                            go_wp2
                                            go_roundg kj78
                                            case measure => have := HJ4.out; have := HJ23.out; have := HK3.out; have := HK4.out; have := HJ54.out; have := HJ78.out; omega
                                            case rel => exact ⟨(wrap64 (x11_4 + 1)), (by first | rfl | (simp; done) | (simp [*]; done)), H', ⟨by have := HJ4.out; have := HJ23.out; have := HK3.out; have := HK4.out; have := HJ54.out; have := HJ78.out; omega⟩, ⟨by (with_reducible repeat (first | apply Kd.R_alloc | apply Kd.R_drewN | apply Kd.R_drew)); exact HO_533000.out⟩, ⟨by (with_reducible repeat (first | refine blk_drewN ?_ _ | refine blk_drew ?_ | refine blk_alloc ?_ _)); exact BK519.out⟩, ⟨by (with_reducible repeat (first | refine blk_drewN ?_ _ | refine blk_drew ?_ | refine blk_alloc ?_ _)); exact BK520.out⟩, ⟨by (with_reducible repeat (first | refine blk_drewN ?_ _ | refine blk_drew ?_ | refine blk_alloc ?_ _)); exact BK532.out⟩, ⟨by (with_reducible repeat (first | refine blk_drewN ?_ _ | refine blk_drew ?_ | refine blk_alloc ?_ _)); exact BK540.out⟩, ⟨by repeat (first | (with_reducible first | exact HB.out | apply below_alloc | apply pw_below_drewN | apply below_drew1 | refine below_set ?_ GE519.out | refine below_set ?_ GE520.out | refine below_set ?_ GE532.out | refine below_set ?_ GE540.out) | exact HB.out)⟩⟩
                              · rw [if_neg c54] at H
                                have c54b0 : decide (x11_4 < (((rd_T56 l0_0 x9_3).f1).size : Int)) = false := decide_eq_false c54
                                clear c54
                                have H' := Aside0.mk H
                                clear H
                                have hnb93 := NB540_519.out
                                have hnc93 := NB519_540.out
                                have hnb94 := NB540_520.out
                                have hnc94 := NB520_540.out
                                have hnb95 := NB540_532.out
                                have hnc95 := NB532_540.out
                                have hcz96_0 : wr.cell? ⟨gb540, 0, none⟩ = some (.int .i64 ((rd_T56 l0_0 x9_3).f0)) := (blk_cell BK540.out 0).trans rfl
                                have hcz96_1 : wr.cell? ⟨gb540, 1, none⟩ = some (.string ((rd_T56 l0_0 x9_3).f1)) := (blk_cell BK540.out 1).trans rfl
                                have hfz96_0 := blk_frozen BK540.out 0
                                have hfz96_1 := blk_frozen BK540.out 1
                                go_wp2
                                go_roundg k4
                                case measure => have := HJ4.out; have := HJ23.out; have := HK3.out; have := HK4.out; omega
                                case rel => exact ⟨(wrap64 (x9_3 + 1)), (by first | rfl | (simp; done) | (simp [*]; done)), H', ⟨by have := HJ4.out; have := HJ23.out; have := HK3.out; have := HK4.out; omega⟩, ⟨by (with_reducible repeat (first | apply Kd.R_alloc | apply Kd.R_drewN | apply Kd.R_drew)); exact Kd.R_mono HO_533000.out (fun _ hk => trivial)⟩, ⟨by (with_reducible repeat (first | refine blk_drewN ?_ _ | refine blk_drew ?_ | refine blk_alloc ?_ _)); exact BK519.out⟩, ⟨by (with_reducible repeat (first | refine blk_drewN ?_ _ | refine blk_drew ?_ | refine blk_alloc ?_ _)); exact BK520.out⟩, ⟨by (with_reducible repeat (first | refine blk_drewN ?_ _ | refine blk_drew ?_ | refine blk_alloc ?_ _)); exact BK532.out⟩, ⟨by repeat (first | (with_reducible first | exact HB.out | apply below_alloc | apply pw_below_drewN | apply below_drew1 | refine below_set ?_ GE519.out | refine below_set ?_ GE520.out | refine below_set ?_ GE532.out | refine below_set ?_ GE540.out) | exact HB.out)⟩⟩
                        · rw [if_neg c45] at H
                          exact absurd H (by simp)
                      · rw [if_neg c44] at H
                        have c44b0 : decide (x9_3 < (l0_0.length : Int)) = false := decide_eq_false c44
                        clear c44
                        obtain rfl := Option.some.inj H
                        have hnb97 := NB519_520.out
                        have hnc97 := NB520_519.out
                        have hnb98 := NB519_532.out
                        have hnc98 := NB532_519.out
                        have hcz99_0 : wr.cell? ⟨gb519, 0, none⟩ = some (.slice A0_0 l0_0.length c0_0) := (blk_cell BK519.out 0).trans rfl
                        have hcz99_1 : wr.cell? ⟨gb519, 1, none⟩ = some (.int .i64 a0_1) := (blk_cell BK519.out 1).trans rfl
                        have hfz99_0 := blk_frozen BK519.out 0
                        have hfz99_1 := blk_frozen BK519.out 1
                        go_wp2
                        go_ret
                        exact ⟨by first | rfl | (simp [errW_none, errW_some] <;> rfl) | (simp [*, errW_none, errW_some] <;> rfl), by repeat (first | (with_reducible first | exact HB.out | apply below_alloc | apply pw_below_drewN | apply below_drew1 | refine below_set ?_ GE519.out | refine below_set ?_ GE520.out | refine below_set ?_ GE532.out) | exact HB.out)⟩
          · rw [if_neg c21] at H
            have c21b0 : (t531 == 0) = false := beq_eq_false_iff_ne.mpr c21
            have c21b1 : (t531 != 0) = true := bne_iff_ne.mpr c21
            obtain rfl := Option.some.inj H
            try go_wp2
            have n0_ := Aside0.mk (blk_drew BK519.out)
            have n1_ := Aside0.mk (blk_drew BK520.out)
            have n2_ := Aside0.mk (below_drew1 HB.out)
            clear BK519
            clear BK520
            clear HB
            have BK519 := n0_
            have BK520 := n1_
            have HB := n2_
            clear n0_ n1_ n2_
            refine start_ (n := 13) (S := fun w' => w'.cell? ⟨gb519, 0, none⟩ = some (.slice A0_0 l0_0.length c0_0) ∧ w'.cell? ⟨gb519, 1, none⟩ = some (.int .i64 a0_1) ∧ w'.cell? ⟨gb520, 0, none⟩ = some (.int .i64 a1_0) ∧ w'.cell? ⟨gb520, 1, none⟩ = some (.int .i64 a1_1) ∧ w'.cell? ⟨gb520, 2, none⟩ = some (.int .i64 a1_2) ∧ w'.cell? ⟨gb520, 3, none⟩ = some (.string a1_3)) (ds := []) #[false, false, false, false, false, false, false, false, false, false, false, false, false] (by kernel_rfl) rfl rfl ⟨(blk_cell BK519.out 0).trans rfl, (blk_cell BK519.out 1).trans rfl, (blk_cell BK520.out 0).trans rfl, (blk_cell BK520.out 1).trans rfl, (blk_cell BK520.out 2).trans rfl, (blk_cell BK520.out 3).trans rfl⟩ (fun hHeld => ?_); refine with_tabW midrangelaw04_SegmentReads.tab5 midrangelaw04_SegmentReads.bits5 (fun HT_ HW_ => ?_)
            generalize wc.drew = w100 at BK519 BK520 HB hHeld ⊢
            refine pure_ (i := 2) (N := some 28) (v := ?_) (a' := ?_) #[false, false, true, false, false, false, false, false, false, false, false, false, false] rfl rfl (any_of HT_.out (by kernel_rfl)) (fun _ _ _ h => h) (Or.inl ⟨by rfl, ?_⟩) ?_ ?_
            rotate_left
            · intro w'
              go_simp
              with_reducible rfl
            rotate_left
            · simp only [Act.put, List.setIfInBounds_toArray, List.set_cons_zero, List.set_cons_succ, i64_w, i32_w]
              rfl
            refine pure_ (i := 4) (N := some 30) (v := ?_) (a' := ?_) #[false, false, true, false, true, false, false, false, false, false, false, false, false] rfl rfl (any_of HT_.out (by kernel_rfl)) (fun _ _ _ h => h) (Or.inl ⟨by rfl, ?_⟩) ?_ ?_
            rotate_left
            · intro w'
              go_simp
              with_reducible rfl
            rotate_left
            · simp only [Act.put, List.setIfInBounds_toArray, List.set_cons_zero, List.set_cons_succ, i64_w, i32_w]
              rfl
            refine take_ (i := 0) (N := some 26) (v := ?_) (a' := ?_) #[true, false, true, false, true, false, false, false, false, false, false, false, false] rfl rfl (take_ofW HT_.out HW_.out (by kernel_rfl)) (fun _ _ _ h => h) (Or.inl ⟨by rfl, ?_⟩) hHeld ?_ ?_
            rotate_left
            · rintro w' ⟨s0, s1, s2, s3, s4, s5⟩
              go_simp
              with_reducible rfl
            rotate_left
            · simp only [Act.put, List.setIfInBounds_toArray, List.set_cons_zero, List.set_cons_succ, i64_w, i32_w]
              rfl
            refine take_ (i := 3) (N := some 29) (v := ?_) (a' := ?_) #[true, false, true, true, true, false, false, false, false, false, false, false, false] rfl rfl (take_ofW HT_.out HW_.out (by kernel_rfl)) (fun _ _ _ h => h) (Or.inl ⟨by rfl, ?_⟩) hHeld ?_ ?_
            rotate_left
            · rintro w' ⟨s0, s1, s2, s3, s4, s5⟩
              go_simp
              with_reducible rfl
            rotate_left
            · simp only [Act.put, List.setIfInBounds_toArray, List.set_cons_zero, List.set_cons_succ, i64_w, i32_w]
              rfl
            refine take_ (i := 5) (N := some 31) (v := ?_) (a' := ?_) #[true, false, true, true, true, true, false, false, false, false, false, false, false] rfl rfl (take_ofW HT_.out HW_.out (by kernel_rfl)) (fun _ _ _ h => h) (Or.inl ⟨by rfl, ?_⟩) hHeld ?_ ?_
            rotate_left
            · rintro w' ⟨s0, s1, s2, s3, s4, s5⟩
              go_simp
              with_reducible rfl
            rotate_left
            · simp only [Act.put, List.setIfInBounds_toArray, List.set_cons_zero, List.set_cons_succ, i64_w, i32_w]
              rfl
            refine join_ (σ := Value × Value × Nat) 2 #[true, true, true, true, true, true, true, true, true, true, true, false, false] (fun s_ => [(27, .agg #[s_.1, .int .i64 t526]), (32, .tuple #[.agg #[s_.2.1, .int .i64 t530], .int .i64 t531]), (5, .pointer (some ⟨s_.2.2, 0, none⟩)), (25, .tuple #[.agg #[s_.2.1, .int .i64 t530], .int .i64 t531]), (33, .agg #[s_.2.1, .int .i64 t530]), (34, .int .i64 t531)]) (fun s_ w' => (w'.cell? ⟨gb519, 0, none⟩ = some (.slice A0_0 l0_0.length c0_0) ∧ w'.cell? ⟨gb519, 1, none⟩ = some (.int .i64 a0_1) ∧ w'.cell? ⟨gb520, 0, none⟩ = some (.int .i64 a1_0) ∧ w'.cell? ⟨gb520, 1, none⟩ = some (.int .i64 a1_1) ∧ w'.cell? ⟨gb520, 2, none⟩ = some (.int .i64 a1_2) ∧ w'.cell? ⟨gb520, 3, none⟩ = some (.string a1_3)) ∧ (Kd.R k56 56 w' w.heap.size (fun k_ => some k_ ≠ (s_.2.1 : Value).ownBlock) s_.1 t523) ∧ (Kd.R k56 56 w' w.heap.size (fun k_ => some k_ ≠ (s_.1 : Value).ownBlock) s_.2.1 t527) ∧ (w'.heap[gb519]? = some (.cells #[.slice A0_0 l0_0.length c0_0, .int .i64 a0_1] 24 (0, 0))) ∧ (w'.heap[gb520]? = some (.cells #[.int .i64 a1_0, .int .i64 a1_1, .int .i64 a1_2, .string a1_3] 48 (0, 0))) ∧ (w'.heap[s_.2.2]? = some (.cells #[.slice none 0 0, .int .i64 0] 24 (0, 0))) ∧ (w.heap.size ≤ s_.2.2) ∧ (w.heap.size ≤ s_.2.2) ∧ (gb519 ≠ s_.2.2) ∧ (s_.2.2 ≠ gb519) ∧ (gb520 ≠ s_.2.2) ∧ (s_.2.2 ≠ gb520) ∧ (Below w.heap.size w w')) ?_ ?_
            rotate_left
            · intro hCont
              refine two_ (i := 1) (j := 10) (Ni := some 27) (Nj := some 5) #[true, true, true, true, true, true, false, false, false, false, false, false, false] #[true, false, true, true, true, true, false, false, false, false, true, false, false] rfl rfl rfl rfl (two_of HT_.out (by kernel_rfl)) (by decide) (by decide) (fun K hK => ?_) (fun K hK => ?_)
              · skip
                refine goes_ Try.func13 (by kernel_rfl) rfl #[.agg #[.slice A0_0 l0_0.length c0_0, .int .i64 a0_1]] (by rfl) rfl rfl (by (try simp only [List.map_toArray, List.map_cons, List.map_nil]); first | done | rfl | (simp only [List.length_drop, List.length_take]; rfl)) ?_
                with_reducible refine (midrangeref04_Own.calls _ _ l0_0 a0_1 t523 t526 _ ?side1 ?side2 A19.out).mono ?_
                (case side1 => repeat (first | exact (Kd.C_below HR0_0.out HB.out) | (with_reducible refine Kd.C_alloc ?_ _) | (with_reducible refine Kd.C_drewN ?_ _) | (with_reducible refine Kd.C_drew ?_)))
                (case side2 => exact HC0_0.out)
                rintro e w101 ⟨v524, rfl, ho0, hb⟩
                refine ⟨_, rfl, ?_⟩
                have n0_ := Aside0.mk (Kd.R_lower ho0 (below_size (by repeat (first | (with_reducible first | exact HB.out | apply below_alloc | apply pw_below_drewN | apply below_drew1 | refine below_set ?_ GE519.out | refine below_set ?_ GE520.out) | exact HB.out))))
                have n1_ := Aside0.mk (blk_below (g := gb519) (o := .cells #[.slice A0_0 l0_0.length c0_0, .int .i64 a0_1] 24 (0, 0)) (by (with_reducible repeat (first | refine blk_drewN ?_ _ | refine blk_drew ?_ | refine blk_alloc ?_ _)); exact BK519.out) hb)
                have n2_ := Aside0.mk (blk_below (g := gb520) (o := .cells #[.int .i64 a1_0, .int .i64 a1_1, .int .i64 a1_2, .string a1_3] 48 (0, 0)) (by (with_reducible repeat (first | refine blk_drewN ?_ _ | refine blk_drew ?_ | refine blk_alloc ?_ _)); exact BK520.out) hb)
                have n3_ := Aside0.mk (below_step (by repeat (first | (with_reducible first | exact HB.out | apply below_alloc | apply pw_below_drewN | apply below_drew1 | refine below_set ?_ GE519.out | refine below_set ?_ GE520.out) | exact HB.out)) hb)
                clear BK519
                clear BK520
                clear HB
                have HO525 := n0_
                have BK519 := n1_
                have BK520 := n2_
                have HB := n3_
                clear n0_ n1_ n2_ n3_
                (try clear hb)
                (try clear hb2)
                (try clear hk)
                (try clear hi)
                (try clear ho0)
                obtain ⟨Ao102, co102, eo102⟩ := Kd.R_slice HO525.out
                (first | subst eo102 | (injection eo102 with f1_ f2_ f3_; have f4_ := f1_.symm; have f5_ := f3_.symm; clear f1_ f2_ f3_; subst f4_; subst f5_))
                refine hK.out _ _ ⟨(blk_cell BK519.out 0).trans rfl, (blk_cell BK519.out 1).trans rfl, (blk_cell BK520.out 0).trans rfl, (blk_cell BK520.out 1).trans rfl, (blk_cell BK520.out 2).trans rfl, (blk_cell BK520.out 3).trans rfl⟩ (fun hHeld => ?_)
                clear hK K
                refine norm_ (a' := ?_) ?_ ?_
                rotate_left
                · show Act.put _ (some 27) _ = _
                  simp only [Act.put, List.setIfInBounds_toArray, List.set_cons_zero, List.set_cons_succ, i64_w, i32_w]
                  rfl
                refine two_ (i := 6) (j := 10) (Ni := some 32) (Nj := some 5) #[true, true, true, true, true, true, true, false, false, false, false, false, false] #[true, true, true, true, true, true, false, false, false, false, true, false, false] rfl rfl rfl rfl (two_of HT_.out (by kernel_rfl)) (by decide) (by decide) (fun K hK => ?_) (fun K hK => ?_)
                · skip
                  refine goes_ Try.func27 (by kernel_rfl) rfl #[.agg #[.slice Ao102 t523.length co102, .int .i64 t526], .agg #[.int .i64 a1_0, .int .i64 a1_1], .string a1_3] (by rfl) rfl rfl (by (try simp only [List.map_toArray, List.map_cons, List.map_nil]); first | done | rfl | (simp only [List.length_drop, List.length_take]; rfl)) ?_
                  with_reducible refine (segment_Written.calls kj4 _ _ t523 t526 a1_0 a1_1 a1_3 t527 t530 t531 _ ?side1 ?side2 A20.out).mono ?_
                  (case side1 => repeat (first | exact (Kd.R_reads' HO525.out).2.2 | (with_reducible refine Kd.C_alloc ?_ _) | (with_reducible refine Kd.C_drewN ?_ _) | (with_reducible refine Kd.C_drew ?_)))
                  (case side2 => exact (Kd.R_reads' HO525.out).2.1)
                  rintro e w103 ⟨v528, rfl, ho0, hb⟩
                  refine ⟨_, rfl, ?_⟩
                  have n0_ := Aside0.mk (Kd.R_elder' (by (with_reducible repeat (first | apply Kd.R_alloc | apply Kd.R_drewN | apply Kd.R_drew)); exact HO525.out) (Kd.R_base ho0) hb)
                  have n1_ := Aside0.mk (Kd.R_lower (Kd.R_new' ho0 (Kd.R_lt (by (with_reducible repeat (first | apply Kd.R_alloc | apply Kd.R_drewN | apply Kd.R_drew)); exact HO525.out))) (below_size (by repeat (first | (with_reducible first | exact HB.out | apply below_alloc | apply pw_below_drewN | apply below_drew1 | refine below_set ?_ GE519.out | refine below_set ?_ GE520.out) | exact HB.out))))
                  have n2_ := Aside0.mk (blk_below (g := gb519) (o := .cells #[.slice A0_0 l0_0.length c0_0, .int .i64 a0_1] 24 (0, 0)) (by (with_reducible repeat (first | refine blk_drewN ?_ _ | refine blk_drew ?_ | refine blk_alloc ?_ _)); exact BK519.out) hb)
                  have n3_ := Aside0.mk (blk_below (g := gb520) (o := .cells #[.int .i64 a1_0, .int .i64 a1_1, .int .i64 a1_2, .string a1_3] 48 (0, 0)) (by (with_reducible repeat (first | refine blk_drewN ?_ _ | refine blk_drew ?_ | refine blk_alloc ?_ _)); exact BK520.out) hb)
                  have n4_ := Aside0.mk (below_step (by repeat (first | (with_reducible first | exact HB.out | apply below_alloc | apply pw_below_drewN | apply below_drew1 | refine below_set ?_ GE519.out | refine below_set ?_ GE520.out) | exact HB.out)) hb)
                  clear HO525
                  clear BK519
                  clear BK520
                  clear HB
                  have HO525 := n0_
                  have HO529 := n1_
                  have BK519 := n2_
                  have BK520 := n3_
                  have HB := n4_
                  clear n0_ n1_ n2_ n3_ n4_
                  (try clear hb)
                  (try clear hb2)
                  (try clear hk)
                  (try clear hi)
                  (try clear ho0)
                  refine hK.out _ _ ⟨(blk_cell BK519.out 0).trans rfl, (blk_cell BK519.out 1).trans rfl, (blk_cell BK520.out 0).trans rfl, (blk_cell BK520.out 1).trans rfl, (blk_cell BK520.out 2).trans rfl, (blk_cell BK520.out 3).trans rfl⟩ (fun hHeld => ?_)
                  clear hK K
                  refine norm_ (a' := ?_) ?_ ?_
                  rotate_left
                  · show Act.put _ (some 32) _ = _
                    simp only [Act.put, List.setIfInBounds_toArray, List.set_cons_zero, List.set_cons_succ, i64_w, i32_w]
                    rfl
                  refine pure_ (i := 7) (N := some 25) (v := ?_) (a' := ?_) #[true, true, true, true, true, true, true, true, false, false, false, false, false] rfl rfl (any_of HT_.out (by kernel_rfl)) (fun _ _ _ h => h) (Or.inl ⟨by rfl, ?_⟩) ?_ ?_
                  rotate_left
                  · intro w'
                    go_simp
                    with_reducible rfl
                  rotate_left
                  · simp only [Act.put, List.setIfInBounds_toArray, List.set_cons_zero, List.set_cons_succ, i64_w, i32_w]
                    rfl
                  refine pure_ (i := 8) (N := some 33) (v := ?_) (a' := ?_) #[true, true, true, true, true, true, true, true, true, false, false, false, false] rfl rfl (any_of HT_.out (by kernel_rfl)) (fun _ _ _ h => h) (Or.inl ⟨by rfl, ?_⟩) ?_ ?_
                  rotate_left
                  · intro w'
                    go_simp
                    with_reducible rfl
                  rotate_left
                  · simp only [Act.put, List.setIfInBounds_toArray, List.set_cons_zero, List.set_cons_succ, i64_w, i32_w]
                    rfl
                  refine pure_ (i := 9) (N := some 34) (v := ?_) (a' := ?_) #[true, true, true, true, true, true, true, true, true, true, false, false, false] rfl rfl (any_of HT_.out (by kernel_rfl)) (fun _ _ _ h => h) (Or.inl ⟨by rfl, ?_⟩) ?_ ?_
                  rotate_left
                  · intro w'
                    go_simp
                    with_reducible rfl
                  rotate_left
                  · simp only [Act.put, List.setIfInBounds_toArray, List.set_cons_zero, List.set_cons_succ, i64_w, i32_w]
                    rfl
                  refine one_ (i := 10) (N := some 5) #[true, true, true, true, true, true, true, true, true, true, true, false, false] rfl rfl (one_of HT_.out (by kernel_rfl)) (by decide) (fun K hK => ?_)
                  refine box_step ?hg (N := 5) ?hd (cs := #[.slice none 0 0, .int .i64 0]) (t := 24) ?hr ?_; (case hd => rfl); (case hg => rfl); (case hr => first | (go_simp; done) | (go_simp; rfl))
                  intro gb532 hg w104 hbox hb
                  have n0_ := Aside0.mk (Kd.R_below (by (with_reducible repeat (first | apply Kd.R_alloc | apply Kd.R_drewN | apply Kd.R_drew)); exact HO525.out) hb)
                  have n1_ := Aside0.mk (Kd.R_below (by (with_reducible repeat (first | apply Kd.R_alloc | apply Kd.R_drewN | apply Kd.R_drew)); exact HO529.out) hb)
                  have n2_ := Aside0.mk (blk_below (g := gb519) (o := .cells #[.slice A0_0 l0_0.length c0_0, .int .i64 a0_1] 24 (0, 0)) (by (with_reducible repeat (first | refine blk_drewN ?_ _ | refine blk_drew ?_ | refine blk_alloc ?_ _)); exact BK519.out) hb)
                  have n3_ := Aside0.mk (blk_below (g := gb520) (o := .cells #[.int .i64 a1_0, .int .i64 a1_1, .int .i64 a1_2, .string a1_3] 48 (0, 0)) (by (with_reducible repeat (first | refine blk_drewN ?_ _ | refine blk_drew ?_ | refine blk_alloc ?_ _)); exact BK520.out) hb)
                  have n4_ := Aside0.mk (below_step (by repeat (first | (with_reducible first | exact HB.out | apply below_alloc | apply pw_below_drewN | apply below_drew1 | refine below_set ?_ GE519.out | refine below_set ?_ GE520.out) | exact HB.out)) hb)
                  have n5_ := Aside0.mk (hbox)
                  have n6_ := Aside0.mk ((by rw [hg]; exact (below_size (by repeat (first | (with_reducible first | exact HB.out | apply below_alloc | apply pw_below_drewN | apply below_drew1 | refine below_set ?_ GE519.out | refine below_set ?_ GE520.out) | exact HB.out))) : w.heap.size ≤ gb532))
                  have n7_ := Aside0.mk ((by rw [hg]; exact (below_size (by repeat (first | (with_reducible first | exact HB.out | apply below_alloc | apply pw_below_drewN | apply below_drew1 | refine below_set ?_ GE519.out | refine below_set ?_ GE520.out) | exact HB.out))) : w.heap.size ≤ gb532))
                  have n8_ := Aside0.mk ((by rw [hg]; exact Nat.ne_of_lt (blk_lt (g := gb519) (o := .cells #[.slice A0_0 l0_0.length c0_0, .int .i64 a0_1] 24 (0, 0)) (by (with_reducible repeat (first | refine blk_drewN ?_ _ | refine blk_drew ?_ | refine blk_alloc ?_ _)); exact BK519.out)) : gb519 ≠ gb532))
                  have n9_ := Aside0.mk ((by rw [hg]; exact Nat.ne_of_gt (blk_lt (g := gb519) (o := .cells #[.slice A0_0 l0_0.length c0_0, .int .i64 a0_1] 24 (0, 0)) (by (with_reducible repeat (first | refine blk_drewN ?_ _ | refine blk_drew ?_ | refine blk_alloc ?_ _)); exact BK519.out)) : gb532 ≠ gb519))
                  have n10_ := Aside0.mk ((by rw [hg]; exact Nat.ne_of_lt (blk_lt (g := gb520) (o := .cells #[.int .i64 a1_0, .int .i64 a1_1, .int .i64 a1_2, .string a1_3] 48 (0, 0)) (by (with_reducible repeat (first | refine blk_drewN ?_ _ | refine blk_drew ?_ | refine blk_alloc ?_ _)); exact BK520.out)) : gb520 ≠ gb532))
                  have n11_ := Aside0.mk ((by rw [hg]; exact Nat.ne_of_gt (blk_lt (g := gb520) (o := .cells #[.int .i64 a1_0, .int .i64 a1_1, .int .i64 a1_2, .string a1_3] 48 (0, 0)) (by (with_reducible repeat (first | refine blk_drewN ?_ _ | refine blk_drew ?_ | refine blk_alloc ?_ _)); exact BK520.out)) : gb532 ≠ gb520))
                  clear HO525
                  clear HO529
                  clear BK519
                  clear BK520
                  clear HB
                  have HO525 := n0_
                  have HO529 := n1_
                  have BK519 := n2_
                  have BK520 := n3_
                  have HB := n4_
                  have BK532 := n5_
                  have GW532 := n6_
                  have GE532 := n7_
                  have NB519_532 := n8_
                  have NB532_519 := n9_
                  have NB520_532 := n10_
                  have NB532_520 := n11_
                  clear n0_ n1_ n2_ n3_ n4_ n5_ n6_ n7_ n8_ n9_ n10_ n11_
                  clear hb hbox hg
                  refine hK.out _ _ ⟨(blk_cell BK519.out 0).trans rfl, (blk_cell BK519.out 1).trans rfl, (blk_cell BK520.out 0).trans rfl, (blk_cell BK520.out 1).trans rfl, (blk_cell BK520.out 2).trans rfl, (blk_cell BK520.out 3).trans rfl⟩ (fun hHeld => ?_)
                  clear hK K
                  refine norm_ (a' := ?_) ?_ ?_
                  rotate_left
                  · show Act.put _ (some 5) _ = _
                    simp only [Act.put, List.setIfInBounds_toArray, List.set_cons_zero, List.set_cons_succ, i64_w, i32_w]
                    rfl
                  exact norm_ (by simp only [putAll, Act.put, List.setIfInBounds_toArray, List.set_cons_zero, List.set_cons_succ]) (hCont (.slice Ao102 t523.length co102, v528, gb532) _ ⟨hHeld, (by (with_reducible repeat (first | apply Kd.R_alloc | apply Kd.R_drewN | apply Kd.R_drew)); exact Kd.R_mono HO525.out (fun _ hk => hk.2)), (by (with_reducible repeat (first | apply Kd.R_alloc | apply Kd.R_drewN | apply Kd.R_drew)); exact Kd.R_mono HO529.out (fun _ hk => hk.2)), (by (with_reducible repeat (first | refine blk_drewN ?_ _ | refine blk_drew ?_ | refine blk_alloc ?_ _)); exact BK519.out), (by (with_reducible repeat (first | refine blk_drewN ?_ _ | refine blk_drew ?_ | refine blk_alloc ?_ _)); exact BK520.out), (by (with_reducible repeat (first | refine blk_drewN ?_ _ | refine blk_drew ?_ | refine blk_alloc ?_ _)); exact BK532.out), GW532.out, GE532.out, NB519_532.out, NB532_519.out, NB520_532.out, NB532_520.out, (by repeat (first | (with_reducible first | exact HB.out | apply below_alloc | apply pw_below_drewN | apply below_drew1 | refine below_set ?_ GE519.out | refine below_set ?_ GE520.out | refine below_set ?_ GE532.out) | exact HB.out))⟩)
                · skip
                  refine box_step ?hg (N := 5) ?hd (cs := #[.slice none 0 0, .int .i64 0]) (t := 24) ?hr ?_; (case hd => rfl); (case hg => rfl); (case hr => first | (go_simp; done) | (go_simp; rfl))
                  intro gb532 hg w102 hbox hb
                  have n0_ := Aside0.mk (Kd.R_below (by (with_reducible repeat (first | apply Kd.R_alloc | apply Kd.R_drewN | apply Kd.R_drew)); exact HO525.out) hb)
                  have n1_ := Aside0.mk (blk_below (g := gb519) (o := .cells #[.slice A0_0 l0_0.length c0_0, .int .i64 a0_1] 24 (0, 0)) (by (with_reducible repeat (first | refine blk_drewN ?_ _ | refine blk_drew ?_ | refine blk_alloc ?_ _)); exact BK519.out) hb)
                  have n2_ := Aside0.mk (blk_below (g := gb520) (o := .cells #[.int .i64 a1_0, .int .i64 a1_1, .int .i64 a1_2, .string a1_3] 48 (0, 0)) (by (with_reducible repeat (first | refine blk_drewN ?_ _ | refine blk_drew ?_ | refine blk_alloc ?_ _)); exact BK520.out) hb)
                  have n3_ := Aside0.mk (below_step (by repeat (first | (with_reducible first | exact HB.out | apply below_alloc | apply pw_below_drewN | apply below_drew1 | refine below_set ?_ GE519.out | refine below_set ?_ GE520.out) | exact HB.out)) hb)
                  have n4_ := Aside0.mk (hbox)
                  have n5_ := Aside0.mk ((by rw [hg]; exact (below_size (by repeat (first | (with_reducible first | exact HB.out | apply below_alloc | apply pw_below_drewN | apply below_drew1 | refine below_set ?_ GE519.out | refine below_set ?_ GE520.out) | exact HB.out))) : w.heap.size ≤ gb532))
                  have n6_ := Aside0.mk ((by rw [hg]; exact (below_size (by repeat (first | (with_reducible first | exact HB.out | apply below_alloc | apply pw_below_drewN | apply below_drew1 | refine below_set ?_ GE519.out | refine below_set ?_ GE520.out) | exact HB.out))) : w.heap.size ≤ gb532))
                  have n7_ := Aside0.mk ((by rw [hg]; exact Nat.ne_of_lt (blk_lt (g := gb519) (o := .cells #[.slice A0_0 l0_0.length c0_0, .int .i64 a0_1] 24 (0, 0)) (by (with_reducible repeat (first | refine blk_drewN ?_ _ | refine blk_drew ?_ | refine blk_alloc ?_ _)); exact BK519.out)) : gb519 ≠ gb532))
                  have n8_ := Aside0.mk ((by rw [hg]; exact Nat.ne_of_gt (blk_lt (g := gb519) (o := .cells #[.slice A0_0 l0_0.length c0_0, .int .i64 a0_1] 24 (0, 0)) (by (with_reducible repeat (first | refine blk_drewN ?_ _ | refine blk_drew ?_ | refine blk_alloc ?_ _)); exact BK519.out)) : gb532 ≠ gb519))
                  have n9_ := Aside0.mk ((by rw [hg]; exact Nat.ne_of_lt (blk_lt (g := gb520) (o := .cells #[.int .i64 a1_0, .int .i64 a1_1, .int .i64 a1_2, .string a1_3] 48 (0, 0)) (by (with_reducible repeat (first | refine blk_drewN ?_ _ | refine blk_drew ?_ | refine blk_alloc ?_ _)); exact BK520.out)) : gb520 ≠ gb532))
                  have n10_ := Aside0.mk ((by rw [hg]; exact Nat.ne_of_gt (blk_lt (g := gb520) (o := .cells #[.int .i64 a1_0, .int .i64 a1_1, .int .i64 a1_2, .string a1_3] 48 (0, 0)) (by (with_reducible repeat (first | refine blk_drewN ?_ _ | refine blk_drew ?_ | refine blk_alloc ?_ _)); exact BK520.out)) : gb532 ≠ gb520))
                  clear HO525
                  clear BK519
                  clear BK520
                  clear HB
                  have HO525 := n0_
                  have BK519 := n1_
                  have BK520 := n2_
                  have HB := n3_
                  have BK532 := n4_
                  have GW532 := n5_
                  have GE532 := n6_
                  have NB519_532 := n7_
                  have NB532_519 := n8_
                  have NB520_532 := n9_
                  have NB532_520 := n10_
                  clear n0_ n1_ n2_ n3_ n4_ n5_ n6_ n7_ n8_ n9_ n10_
                  clear hb hbox hg
                  obtain ⟨Ao103, co103, eo103⟩ := Kd.R_slice HO525.out
                  (first | subst eo103 | (injection eo103 with f1_ f2_ f3_; have f4_ := f1_.symm; have f5_ := f3_.symm; clear f1_ f2_ f3_; subst f4_; subst f5_))
                  refine hK.out _ _ ⟨(blk_cell BK519.out 0).trans rfl, (blk_cell BK519.out 1).trans rfl, (blk_cell BK520.out 0).trans rfl, (blk_cell BK520.out 1).trans rfl, (blk_cell BK520.out 2).trans rfl, (blk_cell BK520.out 3).trans rfl⟩ (fun hHeld => ?_)
                  clear hK K
                  refine norm_ (a' := ?_) ?_ ?_
                  rotate_left
                  · show Act.put _ (some 5) _ = _
                    simp only [Act.put, List.setIfInBounds_toArray, List.set_cons_zero, List.set_cons_succ, i64_w, i32_w]
                    rfl
                  refine one_ (i := 6) (N := some 32) #[true, true, true, true, true, true, true, false, false, false, true, false, false] rfl rfl (one_of HT_.out (by kernel_rfl)) (by decide) (fun K hK => ?_)
                  refine goes_ Try.func27 (by kernel_rfl) rfl #[.agg #[.slice Ao103 t523.length co103, .int .i64 t526], .agg #[.int .i64 a1_0, .int .i64 a1_1], .string a1_3] (by rfl) rfl rfl (by (try simp only [List.map_toArray, List.map_cons, List.map_nil]); first | done | rfl | (simp only [List.length_drop, List.length_take]; rfl)) ?_
                  with_reducible refine (segment_Written.calls kj4 _ _ t523 t526 a1_0 a1_1 a1_3 t527 t530 t531 _ ?side1 ?side2 A20.out).mono ?_
                  (case side1 => repeat (first | exact (Kd.R_reads' HO525.out).2.2 | (with_reducible refine Kd.C_alloc ?_ _) | (with_reducible refine Kd.C_drewN ?_ _) | (with_reducible refine Kd.C_drew ?_)))
                  (case side2 => exact (Kd.R_reads' HO525.out).2.1)
                  rintro e w104 ⟨v528, rfl, ho0, hb⟩
                  refine ⟨_, rfl, ?_⟩
                  have n0_ := Aside0.mk (Kd.R_elder' (by (with_reducible repeat (first | apply Kd.R_alloc | apply Kd.R_drewN | apply Kd.R_drew)); exact HO525.out) (Kd.R_base ho0) hb)
                  have n1_ := Aside0.mk (Kd.R_lower (Kd.R_new' ho0 (Kd.R_lt (by (with_reducible repeat (first | apply Kd.R_alloc | apply Kd.R_drewN | apply Kd.R_drew)); exact HO525.out))) (below_size (by repeat (first | (with_reducible first | exact HB.out | apply below_alloc | apply pw_below_drewN | apply below_drew1 | refine below_set ?_ GE519.out | refine below_set ?_ GE520.out | refine below_set ?_ GE532.out) | exact HB.out))))
                  have n2_ := Aside0.mk (blk_below (g := gb519) (o := .cells #[.slice A0_0 l0_0.length c0_0, .int .i64 a0_1] 24 (0, 0)) (by (with_reducible repeat (first | refine blk_drewN ?_ _ | refine blk_drew ?_ | refine blk_alloc ?_ _)); exact BK519.out) hb)
                  have n3_ := Aside0.mk (blk_below (g := gb520) (o := .cells #[.int .i64 a1_0, .int .i64 a1_1, .int .i64 a1_2, .string a1_3] 48 (0, 0)) (by (with_reducible repeat (first | refine blk_drewN ?_ _ | refine blk_drew ?_ | refine blk_alloc ?_ _)); exact BK520.out) hb)
                  have n4_ := Aside0.mk (blk_below (g := gb532) (o := .cells #[.slice none 0 0, .int .i64 0] 24 (0, 0)) (by (with_reducible repeat (first | refine blk_drewN ?_ _ | refine blk_drew ?_ | refine blk_alloc ?_ _)); exact BK532.out) hb)
                  have n5_ := Aside0.mk (below_step (by repeat (first | (with_reducible first | exact HB.out | apply below_alloc | apply pw_below_drewN | apply below_drew1 | refine below_set ?_ GE519.out | refine below_set ?_ GE520.out | refine below_set ?_ GE532.out) | exact HB.out)) hb)
                  clear HO525
                  clear BK519
                  clear BK520
                  clear BK532
                  clear HB
                  have HO525 := n0_
                  have HO529 := n1_
                  have BK519 := n2_
                  have BK520 := n3_
                  have BK532 := n4_
                  have HB := n5_
                  clear n0_ n1_ n2_ n3_ n4_ n5_
                  (try clear hb)
                  (try clear hb2)
                  (try clear hk)
                  (try clear hi)
                  (try clear ho0)
                  refine hK.out _ _ ⟨(blk_cell BK519.out 0).trans rfl, (blk_cell BK519.out 1).trans rfl, (blk_cell BK520.out 0).trans rfl, (blk_cell BK520.out 1).trans rfl, (blk_cell BK520.out 2).trans rfl, (blk_cell BK520.out 3).trans rfl⟩ (fun hHeld => ?_)
                  clear hK K
                  refine norm_ (a' := ?_) ?_ ?_
                  rotate_left
                  · show Act.put _ (some 32) _ = _
                    simp only [Act.put, List.setIfInBounds_toArray, List.set_cons_zero, List.set_cons_succ, i64_w, i32_w]
                    rfl
                  refine pure_ (i := 7) (N := some 25) (v := ?_) (a' := ?_) #[true, true, true, true, true, true, true, true, false, false, true, false, false] rfl rfl (any_of HT_.out (by kernel_rfl)) (fun _ _ _ h => h) (Or.inl ⟨by rfl, ?_⟩) ?_ ?_
                  rotate_left
                  · intro w'
                    go_simp
                    with_reducible rfl
                  rotate_left
                  · simp only [Act.put, List.setIfInBounds_toArray, List.set_cons_zero, List.set_cons_succ, i64_w, i32_w]
                    rfl
                  refine pure_ (i := 8) (N := some 33) (v := ?_) (a' := ?_) #[true, true, true, true, true, true, true, true, true, false, true, false, false] rfl rfl (any_of HT_.out (by kernel_rfl)) (fun _ _ _ h => h) (Or.inl ⟨by rfl, ?_⟩) ?_ ?_
                  rotate_left
                  · intro w'
                    go_simp
                    with_reducible rfl
                  rotate_left
                  · simp only [Act.put, List.setIfInBounds_toArray, List.set_cons_zero, List.set_cons_succ, i64_w, i32_w]
                    rfl
                  refine pure_ (i := 9) (N := some 34) (v := ?_) (a' := ?_) #[true, true, true, true, true, true, true, true, true, true, true, false, false] rfl rfl (any_of HT_.out (by kernel_rfl)) (fun _ _ _ h => h) (Or.inl ⟨by rfl, ?_⟩) ?_ ?_
                  rotate_left
                  · intro w'
                    go_simp
                    with_reducible rfl
                  rotate_left
                  · simp only [Act.put, List.setIfInBounds_toArray, List.set_cons_zero, List.set_cons_succ, i64_w, i32_w]
                    rfl
                  exact norm_ (by simp only [putAll, Act.put, List.setIfInBounds_toArray, List.set_cons_zero, List.set_cons_succ]) (hCont (.slice Ao103 t523.length co103, v528, gb532) _ ⟨hHeld, (by (with_reducible repeat (first | apply Kd.R_alloc | apply Kd.R_drewN | apply Kd.R_drew)); exact Kd.R_mono HO525.out (fun _ hk => hk.2)), (by (with_reducible repeat (first | apply Kd.R_alloc | apply Kd.R_drewN | apply Kd.R_drew)); exact Kd.R_mono HO529.out (fun _ hk => hk.2)), (by (with_reducible repeat (first | refine blk_drewN ?_ _ | refine blk_drew ?_ | refine blk_alloc ?_ _)); exact BK519.out), (by (with_reducible repeat (first | refine blk_drewN ?_ _ | refine blk_drew ?_ | refine blk_alloc ?_ _)); exact BK520.out), (by (with_reducible repeat (first | refine blk_drewN ?_ _ | refine blk_drew ?_ | refine blk_alloc ?_ _)); exact BK532.out), GW532.out, GE532.out, NB519_532.out, NB532_519.out, NB520_532.out, NB532_520.out, (by repeat (first | (with_reducible first | exact HB.out | apply below_alloc | apply pw_below_drewN | apply below_drew1 | refine below_set ?_ GE519.out | refine below_set ?_ GE520.out | refine below_set ?_ GE532.out) | exact HB.out))⟩)
              · skip
                refine box_step ?hg (N := 5) ?hd (cs := #[.slice none 0 0, .int .i64 0]) (t := 24) ?hr ?_; (case hd => rfl); (case hg => rfl); (case hr => first | (go_simp; done) | (go_simp; rfl))
                intro gb532 hg w101 hbox hb
                have n0_ := Aside0.mk (blk_below (g := gb519) (o := .cells #[.slice A0_0 l0_0.length c0_0, .int .i64 a0_1] 24 (0, 0)) (by (with_reducible repeat (first | refine blk_drewN ?_ _ | refine blk_drew ?_ | refine blk_alloc ?_ _)); exact BK519.out) hb)
                have n1_ := Aside0.mk (blk_below (g := gb520) (o := .cells #[.int .i64 a1_0, .int .i64 a1_1, .int .i64 a1_2, .string a1_3] 48 (0, 0)) (by (with_reducible repeat (first | refine blk_drewN ?_ _ | refine blk_drew ?_ | refine blk_alloc ?_ _)); exact BK520.out) hb)
                have n2_ := Aside0.mk (below_step (by repeat (first | (with_reducible first | exact HB.out | apply below_alloc | apply pw_below_drewN | apply below_drew1 | refine below_set ?_ GE519.out | refine below_set ?_ GE520.out) | exact HB.out)) hb)
                have n3_ := Aside0.mk (hbox)
                have n4_ := Aside0.mk ((by rw [hg]; exact (below_size (by repeat (first | (with_reducible first | exact HB.out | apply below_alloc | apply pw_below_drewN | apply below_drew1 | refine below_set ?_ GE519.out | refine below_set ?_ GE520.out) | exact HB.out))) : w.heap.size ≤ gb532))
                have n5_ := Aside0.mk ((by rw [hg]; exact (below_size (by repeat (first | (with_reducible first | exact HB.out | apply below_alloc | apply pw_below_drewN | apply below_drew1 | refine below_set ?_ GE519.out | refine below_set ?_ GE520.out) | exact HB.out))) : w.heap.size ≤ gb532))
                have n6_ := Aside0.mk ((by rw [hg]; exact Nat.ne_of_lt (blk_lt (g := gb519) (o := .cells #[.slice A0_0 l0_0.length c0_0, .int .i64 a0_1] 24 (0, 0)) (by (with_reducible repeat (first | refine blk_drewN ?_ _ | refine blk_drew ?_ | refine blk_alloc ?_ _)); exact BK519.out)) : gb519 ≠ gb532))
                have n7_ := Aside0.mk ((by rw [hg]; exact Nat.ne_of_gt (blk_lt (g := gb519) (o := .cells #[.slice A0_0 l0_0.length c0_0, .int .i64 a0_1] 24 (0, 0)) (by (with_reducible repeat (first | refine blk_drewN ?_ _ | refine blk_drew ?_ | refine blk_alloc ?_ _)); exact BK519.out)) : gb532 ≠ gb519))
                have n8_ := Aside0.mk ((by rw [hg]; exact Nat.ne_of_lt (blk_lt (g := gb520) (o := .cells #[.int .i64 a1_0, .int .i64 a1_1, .int .i64 a1_2, .string a1_3] 48 (0, 0)) (by (with_reducible repeat (first | refine blk_drewN ?_ _ | refine blk_drew ?_ | refine blk_alloc ?_ _)); exact BK520.out)) : gb520 ≠ gb532))
                have n9_ := Aside0.mk ((by rw [hg]; exact Nat.ne_of_gt (blk_lt (g := gb520) (o := .cells #[.int .i64 a1_0, .int .i64 a1_1, .int .i64 a1_2, .string a1_3] 48 (0, 0)) (by (with_reducible repeat (first | refine blk_drewN ?_ _ | refine blk_drew ?_ | refine blk_alloc ?_ _)); exact BK520.out)) : gb532 ≠ gb520))
                clear BK519
                clear BK520
                clear HB
                have BK519 := n0_
                have BK520 := n1_
                have HB := n2_
                have BK532 := n3_
                have GW532 := n4_
                have GE532 := n5_
                have NB519_532 := n6_
                have NB532_519 := n7_
                have NB520_532 := n8_
                have NB532_520 := n9_
                clear n0_ n1_ n2_ n3_ n4_ n5_ n6_ n7_ n8_ n9_
                clear hb hbox hg
                refine hK.out _ _ ⟨(blk_cell BK519.out 0).trans rfl, (blk_cell BK519.out 1).trans rfl, (blk_cell BK520.out 0).trans rfl, (blk_cell BK520.out 1).trans rfl, (blk_cell BK520.out 2).trans rfl, (blk_cell BK520.out 3).trans rfl⟩ (fun hHeld => ?_)
                clear hK K
                refine norm_ (a' := ?_) ?_ ?_
                rotate_left
                · show Act.put _ (some 5) _ = _
                  simp only [Act.put, List.setIfInBounds_toArray, List.set_cons_zero, List.set_cons_succ, i64_w, i32_w]
                  rfl
                refine one_ (i := 1) (N := some 27) #[true, true, true, true, true, true, false, false, false, false, true, false, false] rfl rfl (one_of HT_.out (by kernel_rfl)) (by decide) (fun K hK => ?_)
                refine goes_ Try.func13 (by kernel_rfl) rfl #[.agg #[.slice A0_0 l0_0.length c0_0, .int .i64 a0_1]] (by rfl) rfl rfl (by (try simp only [List.map_toArray, List.map_cons, List.map_nil]); first | done | rfl | (simp only [List.length_drop, List.length_take]; rfl)) ?_
                with_reducible refine (midrangeref04_Own.calls _ _ l0_0 a0_1 t523 t526 _ ?side1 ?side2 A19.out).mono ?_
                (case side1 => repeat (first | exact (Kd.C_below HR0_0.out HB.out) | (with_reducible refine Kd.C_alloc ?_ _) | (with_reducible refine Kd.C_drewN ?_ _) | (with_reducible refine Kd.C_drew ?_)))
                (case side2 => exact HC0_0.out)
                rintro e w102 ⟨v524, rfl, ho0, hb⟩
                refine ⟨_, rfl, ?_⟩
                have n0_ := Aside0.mk (Kd.R_lower ho0 (below_size (by repeat (first | (with_reducible first | exact HB.out | apply below_alloc | apply pw_below_drewN | apply below_drew1 | refine below_set ?_ GE519.out | refine below_set ?_ GE520.out | refine below_set ?_ GE532.out) | exact HB.out))))
                have n1_ := Aside0.mk (blk_below (g := gb519) (o := .cells #[.slice A0_0 l0_0.length c0_0, .int .i64 a0_1] 24 (0, 0)) (by (with_reducible repeat (first | refine blk_drewN ?_ _ | refine blk_drew ?_ | refine blk_alloc ?_ _)); exact BK519.out) hb)
                have n2_ := Aside0.mk (blk_below (g := gb520) (o := .cells #[.int .i64 a1_0, .int .i64 a1_1, .int .i64 a1_2, .string a1_3] 48 (0, 0)) (by (with_reducible repeat (first | refine blk_drewN ?_ _ | refine blk_drew ?_ | refine blk_alloc ?_ _)); exact BK520.out) hb)
                have n3_ := Aside0.mk (blk_below (g := gb532) (o := .cells #[.slice none 0 0, .int .i64 0] 24 (0, 0)) (by (with_reducible repeat (first | refine blk_drewN ?_ _ | refine blk_drew ?_ | refine blk_alloc ?_ _)); exact BK532.out) hb)
                have n4_ := Aside0.mk (below_step (by repeat (first | (with_reducible first | exact HB.out | apply below_alloc | apply pw_below_drewN | apply below_drew1 | refine below_set ?_ GE519.out | refine below_set ?_ GE520.out | refine below_set ?_ GE532.out) | exact HB.out)) hb)
                clear BK519
                clear BK520
                clear BK532
                clear HB
                have HO525 := n0_
                have BK519 := n1_
                have BK520 := n2_
                have BK532 := n3_
                have HB := n4_
                clear n0_ n1_ n2_ n3_ n4_
                (try clear hb)
                (try clear hb2)
                (try clear hk)
                (try clear hi)
                (try clear ho0)
                obtain ⟨Ao103, co103, eo103⟩ := Kd.R_slice HO525.out
                (first | subst eo103 | (injection eo103 with f1_ f2_ f3_; have f4_ := f1_.symm; have f5_ := f3_.symm; clear f1_ f2_ f3_; subst f4_; subst f5_))
                refine hK.out _ _ ⟨(blk_cell BK519.out 0).trans rfl, (blk_cell BK519.out 1).trans rfl, (blk_cell BK520.out 0).trans rfl, (blk_cell BK520.out 1).trans rfl, (blk_cell BK520.out 2).trans rfl, (blk_cell BK520.out 3).trans rfl⟩ (fun hHeld => ?_)
                clear hK K
                refine norm_ (a' := ?_) ?_ ?_
                rotate_left
                · show Act.put _ (some 27) _ = _
                  simp only [Act.put, List.setIfInBounds_toArray, List.set_cons_zero, List.set_cons_succ, i64_w, i32_w]
                  rfl
                refine one_ (i := 6) (N := some 32) #[true, true, true, true, true, true, true, false, false, false, true, false, false] rfl rfl (one_of HT_.out (by kernel_rfl)) (by decide) (fun K hK => ?_)
                refine goes_ Try.func27 (by kernel_rfl) rfl #[.agg #[.slice Ao103 t523.length co103, .int .i64 t526], .agg #[.int .i64 a1_0, .int .i64 a1_1], .string a1_3] (by rfl) rfl rfl (by (try simp only [List.map_toArray, List.map_cons, List.map_nil]); first | done | rfl | (simp only [List.length_drop, List.length_take]; rfl)) ?_
                with_reducible refine (segment_Written.calls kj4 _ _ t523 t526 a1_0 a1_1 a1_3 t527 t530 t531 _ ?side1 ?side2 A20.out).mono ?_
                (case side1 => repeat (first | exact (Kd.R_reads' HO525.out).2.2 | (with_reducible refine Kd.C_alloc ?_ _) | (with_reducible refine Kd.C_drewN ?_ _) | (with_reducible refine Kd.C_drew ?_)))
                (case side2 => exact (Kd.R_reads' HO525.out).2.1)
                rintro e w104 ⟨v528, rfl, ho0, hb⟩
                refine ⟨_, rfl, ?_⟩
                have n0_ := Aside0.mk (Kd.R_elder' (by (with_reducible repeat (first | apply Kd.R_alloc | apply Kd.R_drewN | apply Kd.R_drew)); exact HO525.out) (Kd.R_base ho0) hb)
                have n1_ := Aside0.mk (Kd.R_lower (Kd.R_new' ho0 (Kd.R_lt (by (with_reducible repeat (first | apply Kd.R_alloc | apply Kd.R_drewN | apply Kd.R_drew)); exact HO525.out))) (below_size (by repeat (first | (with_reducible first | exact HB.out | apply below_alloc | apply pw_below_drewN | apply below_drew1 | refine below_set ?_ GE519.out | refine below_set ?_ GE520.out | refine below_set ?_ GE532.out) | exact HB.out))))
                have n2_ := Aside0.mk (blk_below (g := gb519) (o := .cells #[.slice A0_0 l0_0.length c0_0, .int .i64 a0_1] 24 (0, 0)) (by (with_reducible repeat (first | refine blk_drewN ?_ _ | refine blk_drew ?_ | refine blk_alloc ?_ _)); exact BK519.out) hb)
                have n3_ := Aside0.mk (blk_below (g := gb520) (o := .cells #[.int .i64 a1_0, .int .i64 a1_1, .int .i64 a1_2, .string a1_3] 48 (0, 0)) (by (with_reducible repeat (first | refine blk_drewN ?_ _ | refine blk_drew ?_ | refine blk_alloc ?_ _)); exact BK520.out) hb)
                have n4_ := Aside0.mk (blk_below (g := gb532) (o := .cells #[.slice none 0 0, .int .i64 0] 24 (0, 0)) (by (with_reducible repeat (first | refine blk_drewN ?_ _ | refine blk_drew ?_ | refine blk_alloc ?_ _)); exact BK532.out) hb)
                have n5_ := Aside0.mk (below_step (by repeat (first | (with_reducible first | exact HB.out | apply below_alloc | apply pw_below_drewN | apply below_drew1 | refine below_set ?_ GE519.out | refine below_set ?_ GE520.out | refine below_set ?_ GE532.out) | exact HB.out)) hb)
                clear HO525
                clear BK519
                clear BK520
                clear BK532
                clear HB
                have HO525 := n0_
                have HO529 := n1_
                have BK519 := n2_
                have BK520 := n3_
                have BK532 := n4_
                have HB := n5_
                clear n0_ n1_ n2_ n3_ n4_ n5_
                (try clear hb)
                (try clear hb2)
                (try clear hk)
                (try clear hi)
                (try clear ho0)
                refine hK.out _ _ ⟨(blk_cell BK519.out 0).trans rfl, (blk_cell BK519.out 1).trans rfl, (blk_cell BK520.out 0).trans rfl, (blk_cell BK520.out 1).trans rfl, (blk_cell BK520.out 2).trans rfl, (blk_cell BK520.out 3).trans rfl⟩ (fun hHeld => ?_)
                clear hK K
                refine norm_ (a' := ?_) ?_ ?_
                rotate_left
                · show Act.put _ (some 32) _ = _
                  simp only [Act.put, List.setIfInBounds_toArray, List.set_cons_zero, List.set_cons_succ, i64_w, i32_w]
                  rfl
                refine pure_ (i := 7) (N := some 25) (v := ?_) (a' := ?_) #[true, true, true, true, true, true, true, true, false, false, true, false, false] rfl rfl (any_of HT_.out (by kernel_rfl)) (fun _ _ _ h => h) (Or.inl ⟨by rfl, ?_⟩) ?_ ?_
                rotate_left
                · intro w'
                  go_simp
                  with_reducible rfl
                rotate_left
                · simp only [Act.put, List.setIfInBounds_toArray, List.set_cons_zero, List.set_cons_succ, i64_w, i32_w]
                  rfl
                refine pure_ (i := 8) (N := some 33) (v := ?_) (a' := ?_) #[true, true, true, true, true, true, true, true, true, false, true, false, false] rfl rfl (any_of HT_.out (by kernel_rfl)) (fun _ _ _ h => h) (Or.inl ⟨by rfl, ?_⟩) ?_ ?_
                rotate_left
                · intro w'
                  go_simp
                  with_reducible rfl
                rotate_left
                · simp only [Act.put, List.setIfInBounds_toArray, List.set_cons_zero, List.set_cons_succ, i64_w, i32_w]
                  rfl
                refine pure_ (i := 9) (N := some 34) (v := ?_) (a' := ?_) #[true, true, true, true, true, true, true, true, true, true, true, false, false] rfl rfl (any_of HT_.out (by kernel_rfl)) (fun _ _ _ h => h) (Or.inl ⟨by rfl, ?_⟩) ?_ ?_
                rotate_left
                · intro w'
                  go_simp
                  with_reducible rfl
                rotate_left
                · simp only [Act.put, List.setIfInBounds_toArray, List.set_cons_zero, List.set_cons_succ, i64_w, i32_w]
                  rfl
                exact norm_ (by simp only [putAll, Act.put, List.setIfInBounds_toArray, List.set_cons_zero, List.set_cons_succ]) (hCont (.slice Ao103 t523.length co103, v528, gb532) _ ⟨hHeld, (by (with_reducible repeat (first | apply Kd.R_alloc | apply Kd.R_drewN | apply Kd.R_drew)); exact Kd.R_mono HO525.out (fun _ hk => hk.2)), (by (with_reducible repeat (first | apply Kd.R_alloc | apply Kd.R_drewN | apply Kd.R_drew)); exact Kd.R_mono HO529.out (fun _ hk => hk.2)), (by (with_reducible repeat (first | refine blk_drewN ?_ _ | refine blk_drew ?_ | refine blk_alloc ?_ _)); exact BK519.out), (by (with_reducible repeat (first | refine blk_drewN ?_ _ | refine blk_drew ?_ | refine blk_alloc ?_ _)); exact BK520.out), (by (with_reducible repeat (first | refine blk_drewN ?_ _ | refine blk_drew ?_ | refine blk_alloc ?_ _)); exact BK532.out), GW532.out, GE532.out, NB519_532.out, NB532_519.out, NB520_532.out, NB532_520.out, (by repeat (first | (with_reducible first | exact HB.out | apply below_alloc | apply pw_below_drewN | apply below_drew1 | refine below_set ?_ GE519.out | refine below_set ?_ GE520.out | refine below_set ?_ GE532.out) | exact HB.out))⟩)
            rintro ⟨v524, v528, gb532⟩ w105 ⟨hS_, h0_, h1_, h2_, h3_, h4_, h5_, h6_, h7_, h8_, h9_, h10_, h11_⟩
            have n0_ : Aside0 (Kd.R k56 56 w105 w.heap.size (fun k_ => some k_ ≠ (v528 : Value).ownBlock) v524 t523) := ⟨h0_⟩
            have n1_ : Aside0 (Kd.R k56 56 w105 w.heap.size (fun k_ => some k_ ≠ (v524 : Value).ownBlock) v528 t527) := ⟨h1_⟩
            have n2_ : Aside0 (w105.heap[gb519]? = some (.cells #[.slice A0_0 l0_0.length c0_0, .int .i64 a0_1] 24 (0, 0))) := ⟨h2_⟩
            have n3_ : Aside0 (w105.heap[gb520]? = some (.cells #[.int .i64 a1_0, .int .i64 a1_1, .int .i64 a1_2, .string a1_3] 48 (0, 0))) := ⟨h3_⟩
            have n4_ : Aside0 (w105.heap[gb532]? = some (.cells #[.slice none 0 0, .int .i64 0] 24 (0, 0))) := ⟨h4_⟩
            have n5_ : Aside0 (w.heap.size ≤ gb532) := ⟨h5_⟩
            have n6_ : Aside0 (w.heap.size ≤ gb532) := ⟨h6_⟩
            have n7_ : Aside0 (gb519 ≠ gb532) := ⟨h7_⟩
            have n8_ : Aside0 (gb532 ≠ gb519) := ⟨h8_⟩
            have n9_ : Aside0 (gb520 ≠ gb532) := ⟨h9_⟩
            have n10_ : Aside0 (gb532 ≠ gb520) := ⟨h10_⟩
            have n11_ : Aside0 (Below w.heap.size w w105) := ⟨h11_⟩
            clear BK519
            clear BK520
            clear HB
            clear h0_ h1_ h2_ h3_ h4_ h5_ h6_ h7_ h8_ h9_ h10_ h11_
            have HO525 := n0_
            have HO529 := n1_
            have BK519 := n2_
            have BK520 := n3_
            have BK532 := n4_
            have GW532 := n5_
            have GE532 := n6_
            have NB519_532 := n7_
            have NB532_519 := n8_
            have NB520_532 := n9_
            have NB532_520 := n10_
            have HB := n11_
            clear n0_ n1_ n2_ n3_ n4_ n5_ n6_ n7_ n8_ n9_ n10_ n11_
            have hHeld : w105.cell? ⟨gb519, 0, none⟩ = some (.slice A0_0 l0_0.length c0_0) ∧ w105.cell? ⟨gb519, 1, none⟩ = some (.int .i64 a0_1) ∧ w105.cell? ⟨gb520, 0, none⟩ = some (.int .i64 a1_0) ∧ w105.cell? ⟨gb520, 1, none⟩ = some (.int .i64 a1_1) ∧ w105.cell? ⟨gb520, 2, none⟩ = some (.int .i64 a1_2) ∧ w105.cell? ⟨gb520, 3, none⟩ = some (.string a1_3) := hS_
            obtain ⟨Ao106, co106, eo106⟩ := Kd.R_slice HO529.out
            (first | subst eo106 | (injection eo106 with f1_ f2_ f3_; have f4_ := f1_.symm; have f5_ := f3_.symm; clear f1_ f2_ f3_; subst f4_; subst f5_))
            refine norm_ (a' := ?_) ?_ ?_
            rotate_left
            · simp only [putAll, Act.put, List.setIfInBounds_toArray, List.set_cons_zero, List.set_cons_succ]
              rfl
            refine one_ (i := 11) (N := none) #[true, true, true, true, true, true, true, true, true, true, true, true, false] rfl rfl (one_of HT_.out (by kernel_rfl)) (by decide) (fun K hK => ?_)
            have hs107 : w105.cell? ⟨gb532, 0, none⟩ = some (.slice none 0 0) := (blk_cell BK532.out 0).trans rfl
            have hfs107 := blk_frozen BK532.out 0
            have hns107_0 := NB519_532.out
            have hns107_1 := NB520_532.out
            have hms107_0 := NB532_519.out
            have hms107_1 := NB532_520.out
            have hs108 : w105.cell? ⟨gb532, 1, none⟩ = some (.int .i64 0) := (blk_cell BK532.out 1).trans rfl
            have hfs108 := blk_frozen BK532.out 1
            have hns108_0 := NB519_532.out
            have hns108_1 := NB520_532.out
            have hms108_0 := NB532_519.out
            have hms108_1 := NB532_520.out
            refine skip_ (w1 := ?_) (by rfl) rfl ?_ ?_
            rotate_left
            · go_simp
              rfl
            refine hK.out _ _ ⟨((cell_far (p := ⟨gb532, _, none⟩) NB519_532.out _).trans (((cell_far (p := ⟨gb532, _, none⟩) NB519_532.out _).trans (hHeld.1)))), ((cell_far (p := ⟨gb532, _, none⟩) NB519_532.out _).trans (((cell_far (p := ⟨gb532, _, none⟩) NB519_532.out _).trans (hHeld.2.1)))), ((cell_far (p := ⟨gb532, _, none⟩) NB520_532.out _).trans (((cell_far (p := ⟨gb532, _, none⟩) NB520_532.out _).trans (hHeld.2.2.1)))), ((cell_far (p := ⟨gb532, _, none⟩) NB520_532.out _).trans (((cell_far (p := ⟨gb532, _, none⟩) NB520_532.out _).trans (hHeld.2.2.2.1)))), ((cell_far (p := ⟨gb532, _, none⟩) NB520_532.out _).trans (((cell_far (p := ⟨gb532, _, none⟩) NB520_532.out _).trans (hHeld.2.2.2.2.1)))), ((cell_far (p := ⟨gb532, _, none⟩) NB520_532.out _).trans (((cell_far (p := ⟨gb532, _, none⟩) NB520_532.out _).trans (hHeld.2.2.2.2.2))))⟩ (fun hHeld => ?_)
            clear hK K
            refine pure_ (i := 12) (N := some 6) (v := ?_) (a' := ?_) #[true, true, true, true, true, true, true, true, true, true, true, true, true] rfl rfl (any_of HT_.out (by kernel_rfl)) (fun _ _ _ h => h) (Or.inl ⟨by rfl, ?_⟩) ?_ ?_
            rotate_left
            · intro w'
              go_simp
              with_reducible rfl
            rotate_left
            · simp only [Act.put, List.setIfInBounds_toArray, List.set_cons_zero, List.set_cons_succ, i64_w, i32_w]
              rfl
            refine done_ (done_of HT_.out (by kernel_rfl)) ?_
            try go_wp2
            go_ret
            exact ⟨by first | rfl | (simp [errW_none, errW_some] <;> rfl) | (simp [*, errW_none, errW_some] <;> rfl), by repeat (first | (with_reducible first | exact HB.out | apply below_alloc | apply pw_below_drewN | apply below_drew1 | refine below_set ?_ GE519.out | refine below_set ?_ GE520.out | refine below_set ?_ GE532.out) | exact HB.out)⟩
  · replace c4 := Bool.eq_false_iff.mpr c4
    subst c4
    have H1 : (some false) = some r := by rw [if_neg (show ¬ (false = true) by decide)] at H; exact H
    clear H
    have H := H1
    clear H1
    obtain rfl := Option.some.inj H
    go_enter Try.func7, Try.ntmps7
    go_wp2_with (first | ((with_reducible refine gate_dst (N := 2) rfl ?_); (try (refine gate_guard (by rfl) ?_; dsimp only)); refine box_event ?hg (N := 2) ?hd (cs := #[.slice A0_0 l0_0.length c0_0, .int .i64 a0_1]) (t := 24) ?hr ?_; (case hd => rfl); (case hg => rfl); (case hr => first | (go_simp; done) | (go_simp; rfl)); intro gb519 hg w109 hbox hb; have n0_ := Aside0.mk (below_step (by repeat (first | (with_reducible first | exact HB.out | apply below_alloc | apply pw_below_drewN | apply below_drew1) | exact HB.out)) hb); have n1_ := Aside0.mk (hbox); have n2_ := Aside0.mk ((by rw [hg]; exact (below_size (by repeat (first | (with_reducible first | exact HB.out | apply below_alloc | apply pw_below_drewN | apply below_drew1) | exact HB.out))) : w.heap.size ≤ gb519)); have n3_ := Aside0.mk ((by rw [hg]; exact (below_size (by repeat (first | (with_reducible first | exact HB.out | apply below_alloc | apply pw_below_drewN | apply below_drew1) | exact HB.out))) : w.heap.size ≤ gb519)); clear HB; have HB := n0_; have BK519 := n1_; have GW519 := n2_; have GE519 := n3_; clear n0_ n1_ n2_ n3_; clear hb hbox hg) | ((with_reducible refine gate_dst (N := 3) rfl ?_); (try (refine gate_guard (by rfl) ?_; dsimp only)); refine box_event ?hg (N := 3) ?hd (cs := #[.int .i64 a1_0, .int .i64 a1_1, .int .i64 a1_2, .string a1_3]) (t := 48) ?hr ?_; (case hd => rfl); (case hg => rfl); (case hr => first | (go_simp; done) | (go_simp; rfl)); intro gb520 hg w110 hbox hb; have n0_ := Aside0.mk (blk_below (g := gb519) (o := .cells #[.slice A0_0 l0_0.length c0_0, .int .i64 a0_1] 24 (0, 0)) (by (with_reducible repeat (first | refine blk_drewN ?_ _ | refine blk_drew ?_ | refine blk_alloc ?_ _)); exact BK519.out) hb); have n1_ := Aside0.mk (below_step (by repeat (first | (with_reducible first | exact HB.out | apply below_alloc | apply pw_below_drewN | apply below_drew1 | refine below_set ?_ GE519.out) | exact HB.out)) hb); have n2_ := Aside0.mk (hbox); have n3_ := Aside0.mk ((by rw [hg]; exact (below_size (by repeat (first | (with_reducible first | exact HB.out | apply below_alloc | apply pw_below_drewN | apply below_drew1 | refine below_set ?_ GE519.out) | exact HB.out))) : w.heap.size ≤ gb520)); have n4_ := Aside0.mk ((by rw [hg]; exact (below_size (by repeat (first | (with_reducible first | exact HB.out | apply below_alloc | apply pw_below_drewN | apply below_drew1 | refine below_set ?_ GE519.out) | exact HB.out))) : w.heap.size ≤ gb520)); have n5_ := Aside0.mk ((by rw [hg]; exact Nat.ne_of_lt (blk_lt (g := gb519) (o := .cells #[.slice A0_0 l0_0.length c0_0, .int .i64 a0_1] 24 (0, 0)) (by (with_reducible repeat (first | refine blk_drewN ?_ _ | refine blk_drew ?_ | refine blk_alloc ?_ _)); exact BK519.out)) : gb519 ≠ gb520)); have n6_ := Aside0.mk ((by rw [hg]; exact Nat.ne_of_gt (blk_lt (g := gb519) (o := .cells #[.slice A0_0 l0_0.length c0_0, .int .i64 a0_1] 24 (0, 0)) (by (with_reducible repeat (first | refine blk_drewN ?_ _ | refine blk_drew ?_ | refine blk_alloc ?_ _)); exact BK519.out)) : gb520 ≠ gb519)); clear BK519; clear HB; have BK519 := n0_; have HB := n1_; have BK520 := n2_; have GW520 := n3_; have GE520 := n4_; have NB519_520 := n5_; have NB520_519 := n6_; clear n0_ n1_ n2_ n3_ n4_ n5_ n6_; clear hb hbox hg) | ((with_reducible refine gate_callee (f := 10) rfl ?_); refine goesL_ (some 14) rfl rfl Try.func10 (by kernel_rfl) rfl #[] rfl (by (try simp only [List.map_toArray, List.map_cons, List.map_nil]); first | done | rfl | (simp only [List.length_drop, List.length_take]; rfl)) ?_; (with_reducible refine (midrangelaw04_awake.calls k  false _ A3.out).mono ?_); rintro e w111 ⟨rfl, hb⟩; refine ⟨_, rfl, ?_⟩; have n0_ := Aside0.mk (blk_below (g := gb519) (o := .cells #[.slice A0_0 l0_0.length c0_0, .int .i64 a0_1] 24 (0, 0)) (by (with_reducible repeat (first | refine blk_drewN ?_ _ | refine blk_drew ?_ | refine blk_alloc ?_ _)); exact BK519.out) hb); have n1_ := Aside0.mk (blk_below (g := gb520) (o := .cells #[.int .i64 a1_0, .int .i64 a1_1, .int .i64 a1_2, .string a1_3] 48 (0, 0)) (by (with_reducible repeat (first | refine blk_drewN ?_ _ | refine blk_drew ?_ | refine blk_alloc ?_ _)); exact BK520.out) hb); have n2_ := Aside0.mk (below_step (by repeat (first | (with_reducible first | exact HB.out | apply below_alloc | apply pw_below_drewN | apply below_drew1 | refine below_set ?_ GE519.out | refine below_set ?_ GE520.out) | exact HB.out)) hb); clear BK519; clear BK520; clear HB; have BK519 := n0_; have BK520 := n1_; have HB := n2_; clear n0_ n1_ n2_; (try clear hb); (try clear hb2); (try clear hk); (try clear hi)))
    go_ret
    exact ⟨by first | rfl | (simp [errW_none, errW_some] <;> rfl) | (simp [*, errW_none, errW_some] <;> rfl), by repeat (first | (with_reducible first | exact HB.out | apply below_alloc | apply pw_below_drewN | apply below_drew1 | refine below_set ?_ GE519.out | refine below_set ?_ GE520.out) | exact HB.out)⟩

/-- THE ONE PURE STATEMENT of midrangelaw04_SegmentReads. -/
def midrangelaw04_SegmentReads.Pure : Prop := ∀ (l0_0 : List (S56)) (a0_1 : Int) (a1_0 : Int) (a1_1 : Int) (a1_2 : Int) (a1_3 : ByteArray), (l0_0.length ≤ 9223372036854775807 ∧ ∀ y0 ∈ l0_0, ok56 y0) → (Lit.int .i64 a0_1).wf = true → (Lit.int .i64 a1_0).wf = true → (Lit.int .i64 a1_1).wf = true → (Lit.int .i64 a1_2).wf = true → a1_3.size ≤ 9223372036854775807 → ∃ k, midrangelaw04_SegmentReads.f k l0_0 a0_1 a1_0 a1_1 a1_2 a1_3 = some true

end Go.Proofs.Ytoabahlaicgmjaa.X
end
