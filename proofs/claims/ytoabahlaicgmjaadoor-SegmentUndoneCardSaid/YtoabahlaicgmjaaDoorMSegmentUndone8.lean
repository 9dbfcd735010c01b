-- Texts of this claim joined by merge.py, a program of its author; what this claim does not reach is left out.
import Derived.Test.YtoabahlaicgmjaaDoorMSegmentUndone7
section
namespace Go.Proofs.YtoabahlaicgmjaaDoor.X
open Go.Proofs.YtoabahlaicgmjaaDoor.XW Go.Proofs.YtoabahlaicgmjaaDoor.XS
open Go.RowKit Go.Proofs.YtoabahlaicgmjaaDoorW.PrintWords Go.Proofs.YtoabahlaicgmjaaDoorW.PrintLast Go.Proofs.YtoabahlaicgmjaaDoorW.PrintMore
attribute [local go_sem] max2_int min2_int max_two min_two max_three min_three max_four min_four   -- for this text's walks alone
set_option linter.unusedVariables false
set_option linter.unusedSimpArgs false
mutual
def midrangelaw04_SegmentUndone.j0 : Nat → Bool → List (S46) → Int → Int → Int → Int → Int → ByteArray → Option (Bool)
  | 0, _, _, _, _, _, _, _, _ => none
  | k + 1, x23, x571000, x571001, x572000, x572001, x572002, x572003, x572004 => if x23 = true then (some true) else ((midrangeref04_Own.f x571000 x571001).bind fun bt574 => ((segment_Undo.f k bt574.1 bt574.2 x572000 x572001 x572002 x572003 x572004).bind fun bt578 => (if bt578.2 = 0 then ((midrangeref04_Own.f x571000 x571001).bind fun bt582 => ((segment_Applied.f k bt582.1 bt582.2 (([(⟨x572000, x572001, x572002, x572003, x572004⟩ : S26)] : List (S26)))).bind fun bt589 => (if bt589.2.2.2 = 0 then ((midrangelaw04_few.f k bt589.1 bt589.2.1).bind fun t596 => (midrangelaw04_SegmentUndone.j1 k bt578.1 (!t596) x571000 x571001 bt589.1 bt589.2.1)) else (midrangelaw04_SegmentUndone.j1 k bt578.1 true x571000 x571001 bt589.1 bt589.2.1)))) else (some true))))
def midrangelaw04_SegmentUndone.j1 : Nat → List (S26) → Bool → List (S46) → Int → List (S46) → Int → Option (Bool)
  | 0, _, _, _, _, _, _ => none
  | k + 1, x5, x48, x571000, x571001, x596000, x596001 => if x48 = true then (some false) else ((midrangeref04_Own.f x596000 x596001).bind fun bt597 => ((midrangeref04_OwnOps.f x5).bind fun t601 => ((segment_Applied.f k bt597.1 bt597.2 t601).bind fun bt604 => (if bt604.2.2.2 = 0 then (if bt604.2.2.1 = (x5.length : Int) then ((midrangeref04_Same.f k bt604.1 bt604.2.1 x571000 x571001).bind fun t611 => (some t611)) else (some false)) else (some false)))))
end
def midrangelaw04_SegmentUndone.f (k : Nat) (l0_0 : List (S46)) (a0_1 : Int) (a1_0 : Int) (a1_1 : Int) (a1_2 : Int) (a1_3 : Int) (a1_4 : ByteArray) : Option (Bool) := (midrangelaw04_awake.f k).bind fun t572 => (if t572 = true then ((midrangelaw04_few.f k l0_0 a0_1).bind fun t573 => (if t573 = true then (midrangelaw04_SegmentUndone.j0 k (decide ((a1_4.size : Int) > 400)) l0_0 a0_1 a1_0 a1_1 a1_2 a1_3 a1_4) else (midrangelaw04_SegmentUndone.j0 k true l0_0 a0_1 a1_0 a1_1 a1_2 a1_3 a1_4))) else (some false))
def midrangelaw04_SegmentUndone.T5 : Bool × List (List Nat × List Nat) := (true, [([], []), ([0], [0]), ([], []), ([1, 2, 1], [1, 2]), ([3], [3]), ([4], [4]), ([4], [4]), ([5, 3, 0, 1, 2, 3, 4, 5], [5]), ([6, 7, 0, 1, 2, 3, 4, 5, 6, 7], [6])])
def midrangelaw04_SegmentUndone.B5 : List Nat := [0, 1, 0, 7, 15, 31, 31, 63, 255]
theorem midrangelaw04_SegmentUndone.tab5 : rtab .any (opsOf Tryd.f4 5) = midrangelaw04_SegmentUndone.T5 := by kernel_rfl
theorem midrangelaw04_SegmentUndone.bits5 : waitsOk midrangelaw04_SegmentUndone.T5.2 midrangelaw04_SegmentUndone.B5 = true := by kernel_rfl
def midrangelaw04_SegmentUndone.T8 : Bool × List (List Nat × List Nat) := (true, [([], []), ([0], [0]), ([], []), ([2], [2]), ([1, 3, 1], [1, 3]), ([4], [4]), ([5], [5]), ([5], [5]), ([5], [5]), ([], []), ([9, 6, 4, 0, 1, 2, 3, 4, 5, 6, 9], [6, 9]), ([7, 10, 0, 1, 2, 3, 4, 5, 6, 7, 9, 10], [7]), ([8, 11, 0, 1, 2, 3, 4, 5, 6, 7, 8, 9, 10, 11], [8])])
def midrangelaw04_SegmentUndone.B8 : List Nat := [0, 1, 0, 4, 15, 31, 63, 63, 63, 0, 639, 1791, 4095]
theorem midrangelaw04_SegmentUndone.tab8 : rtab .any (opsOf Tryd.f4 8) = midrangelaw04_SegmentUndone.T8 := by kernel_rfl
theorem midrangelaw04_SegmentUndone.bits8 : waitsOk midrangelaw04_SegmentUndone.T8.2 midrangelaw04_SegmentUndone.B8 = true := by kernel_rfl
set_option maxHeartbeats 8000000 in
set_option maxRecDepth 100000 in
theorem midrangelaw04_SegmentUndone.calls (k : Nat) (A0_0 : Option Addr) (c0_0 : Nat) (l0_0 : List (S46)) (a0_1 : Int) (a1_0 : Int) (a1_1 : Int) (a1_2 : Int) (a1_3 : Int) (a1_4 : ByteArray) (r : Bool) (w : World) (hr0_0 : Kd.C k46 w A0_0 l0_0.length l0_0) (hc0_0 : l0_0.length ≤ c0_0) (h : midrangelaw04_SegmentUndone.f k l0_0 a0_1 a1_0 a1_1 a1_2 a1_3 a1_4 = some r) :
  Calls Tryd.prog 4 #[.agg #[.slice A0_0 l0_0.length c0_0, .int .i64 a0_1], .agg #[.int .i64 a1_0, .int .i64 a1_1, .int .i64 a1_2, .int .i64 a1_3, .string a1_4]] w fun e w' => e = .returned (.bool r) ∧ Below w.heap.size w w' := by
 have hu24 := Tryd.underlying24
 have hu26 := Tryd.underlying26
 have HR0_0 := Aside0.mk hr0_0
 have HC0_0 := Aside0.mk hc0_0
 clear hr0_0 hc0_0
 have HB := Aside0.mk (Below.refl w.heap.size w)
 have H : ((midrangelaw04_awake.f k).bind fun t572 => (if t572 = true then ((midrangelaw04_few.f k l0_0 a0_1).bind fun t573 => (if t573 = true then (midrangelaw04_SegmentUndone.j0 k (decide ((a1_4.size : Int) > 400)) l0_0 a0_1 a1_0 a1_1 a1_2 a1_3 a1_4) else (midrangelaw04_SegmentUndone.j0 k true l0_0 a0_1 a1_0 a1_1 a1_2 a1_3 a1_4))) else (some false))) = some r := h
 clear h
 replace H := Option.bind_eq_some_iff.mp H
 obtain ⟨t572, A30, H⟩ := H
 replace H : (if t572 = true then ((midrangelaw04_few.f k l0_0 a0_1).bind fun t573 => (if t573 = true then (midrangelaw04_SegmentUndone.j0 k (decide ((a1_4.size : Int) > 400)) l0_0 a0_1 a1_0 a1_1 a1_2 a1_3 a1_4) else (midrangelaw04_SegmentUndone.j0 k true l0_0 a0_1 a1_0 a1_1 a1_2 a1_3 a1_4))) else (some false)) = some r := H
 have A3 := Aside0.mk A30
 clear A30
 by_cases c4 : t572 = true
 ·
  subst c4
  have H1 : ((midrangelaw04_few.f k l0_0 a0_1).bind fun t573 => (if t573 = true then (midrangelaw04_SegmentUndone.j0 k (decide ((a1_4.size : Int) > 400)) l0_0 a0_1 a1_0 a1_1 a1_2 a1_3 a1_4) else (midrangelaw04_SegmentUndone.j0 k true l0_0 a0_1 a1_0 a1_1 a1_2 a1_3 a1_4))) = some r := by rw [if_pos rfl] at H; exact H
  clear H
  have H := H1
  clear H1
  have HC5 := Aside0.mk H
  clear H
  go_enter Tryd.func4, Tryd.ntmps4
  go_upto_region 3 with (first | ((with_reducible refine gate_dst (N := 2) rfl ?_); (try (refine gate_guard (by rfl) ?_; dsimp only)); refine bx_ 2 #[.slice A0_0 l0_0.length c0_0, .int .i64 a0_1] 24 ?_; intro gb570 hg w6 hbox hb; have BK570 := Aside0.mk (hbox); have GW570 := gw_ hg HB; have GE570 := gw_ hg HB; replace HB := sb_ HB hb; clear hb hbox hg) | ((with_reducible refine gate_dst (N := 3) rfl ?_); (try (refine gate_guard (by rfl) ?_; dsimp only)); refine bx_ 3 #[.int .i64 a1_0, .int .i64 a1_1, .int .i64 a1_2, .int .i64 a1_3, .string a1_4] 26 ?_; intro gb571 hg w7 hbox hb; have BK571 := Aside0.mk (hbox); have GW571 := gw_ hg HB; have GE571 := gw_ hg HB; replace HB := sb_ HB hb; have NB570_571 := nl_ hg BK570; have NB571_570 := ng_ hg BK570; replace BK570 := kb_ BK570 hb; clear hb hbox hg) | ((with_reducible refine gate_callee (f := 5) rfl ?_); refine gl_ 13 Tryd.func5 #[] ?_; (with_reducible refine (midrangelaw04_awake.calls k  true _ A3.out).mono ?_); rintro e w8 ⟨rfl, hb⟩; refine ⟨_, rfl, ?_⟩; replace BK570 := kb_ BK570 hb; replace BK571 := kb_ BK571 hb; replace HB := sb_ HB hb; (try clear hb); (try clear hb2); (try clear hk); (try clear hi)))
  (try simp only [Act.put, List.setIfInBounds_toArray, List.set_cons_zero, List.set_cons_succ])
  go_cut [23] (fun v23 wc => ∃ (kq : Nat) (x23_4 : Bool), v23 = .bool x23_4 ∧ Aside0 (midrangelaw04_SegmentUndone.j0 kq x23_4 l0_0 a0_1 a1_0 a1_1 a1_2 a1_3 a1_4 = some r) ∧ Aside0 (kq ≤ k) ∧ Aside0 (wc.heap[gb570]? = some (.cells #[(.slice A0_0 l0_0.length c0_0), .int .i64 a0_1] 24 (0, 0))) ∧ Aside0 (wc.heap[gb571]? = some (.cells #[.int .i64 a1_0, .int .i64 a1_1, .int .i64 a1_2, .int .i64 a1_3, .string a1_4] 26 (0, 0))) ∧ Aside0 (Below w.heap.size w wc))
  case first =>
   have H := HC5.out
   clear HC5
   replace H := Option.bind_eq_some_iff.mp H
   obtain ⟨t573, A90, H⟩ := H
   replace H : (if t573 = true then (midrangelaw04_SegmentUndone.j0 k (decide ((a1_4.size : Int) > 400)) l0_0 a0_1 a1_0 a1_1 a1_2 a1_3 a1_4) else (midrangelaw04_SegmentUndone.j0 k true l0_0 a0_1 a1_0 a1_1 a1_2 a1_3 a1_4)) = some r := H
   have A9 := Aside0.mk A90
   clear A90
   by_cases c10 : t573 = true
   ·
    subst c10
    have H1 : (midrangelaw04_SegmentUndone.j0 k (decide ((a1_4.size : Int) > 400)) l0_0 a0_1 a1_0 a1_1 a1_2 a1_3 a1_4) = some r := by rw [if_pos rfl] at H; exact H
    clear H
    have H := H1
    clear H1
    have H' := Aside0.mk H
    clear H
    have hnb11 := NB570_571.out
    have hnc11 := NB571_570.out
    have hcz12_0 := cz_ BK570 0 (.slice A0_0 l0_0.length c0_0)
    have hcz12_1 := cz_ BK570 1 (.int .i64 a0_1)
    have hfz12_0 := blk_frozen BK570.out 0
    have hfz12_1 := blk_frozen BK570.out 1
    go_wp2_with (first | ((with_reducible refine gate_callee (f := 6) rfl ?_); refine gl_ 16 Tryd.func6 #[.agg #[.slice A0_0 l0_0.length c0_0, .int .i64 a0_1]] ?_; (with_reducible refine (midrangelaw04_few.calls k _ _ l0_0 a0_1 true _ ?side1 ?side2 A9.out).mono ?_); (case side1 => exact pc_ (Kd.C_below HR0_0.out HB.out)); (case side2 => exact HC0_0.out); rintro e w13 ⟨rfl, hb⟩; refine ⟨_, rfl, ?_⟩; replace BK570 := kb_ BK570 hb; replace BK571 := kb_ BK571 hb; replace HB := sb_ HB hb; (try clear hb); (try clear hb2); (try clear hk); (try clear hi); have hcz14_0 := cz_ BK571 0 (.int .i64 a1_0); have hcz14_1 := cz_ BK571 1 (.int .i64 a1_1); have hcz14_2 := cz_ BK571 2 (.int .i64 a1_2); have hcz14_3 := cz_ BK571 3 (.int .i64 a1_3); have hcz14_4 := cz_ BK571 4 (.string a1_4); have hfz14_0 := blk_frozen BK571.out 0; have hfz14_1 := blk_frozen BK571.out 1; have hfz14_2 := blk_frozen BK571.out 2; have hfz14_3 := blk_frozen BK571.out 3; have hfz14_4 := blk_frozen BK571.out 4))
    go_meet
    case rel => exact ⟨_, (decide ((a1_4.size : Int) > 400)), rl_, H', ⟨by first | omega | exact Nat.le_refl _⟩, ⟨pk_ BK570⟩, ⟨pk_ BK571⟩, ⟨pb_ HB⟩⟩
   replace c10 := Bool.eq_false_iff.mpr c10
   subst c10
   have H1 : (midrangelaw04_SegmentUndone.j0 k true l0_0 a0_1 a1_0 a1_1 a1_2 a1_3 a1_4) = some r := by rw [if_neg (show ¬ (false = true) by decide)] at H; exact H
   clear H
   have H := H1
   clear H1
   have H' := Aside0.mk H
   clear H
   have hnb15 := NB570_571.out
   have hnc15 := NB571_570.out
   have hcz16_0 := cz_ BK570 0 (.slice A0_0 l0_0.length c0_0)
   have hcz16_1 := cz_ BK570 1 (.int .i64 a0_1)
   have hfz16_0 := blk_frozen BK570.out 0
   have hfz16_1 := blk_frozen BK570.out 1
   go_wp2_with (first | ((with_reducible refine gate_callee (f := 6) rfl ?_); refine gl_ 16 Tryd.func6 #[.agg #[.slice A0_0 l0_0.length c0_0, .int .i64 a0_1]] ?_; (with_reducible refine (midrangelaw04_few.calls k _ _ l0_0 a0_1 false _ ?side1 ?side2 A9.out).mono ?_); (case side1 => exact pc_ (Kd.C_below HR0_0.out HB.out)); (case side2 => exact HC0_0.out); rintro e w17 ⟨rfl, hb⟩; refine ⟨_, rfl, ?_⟩; replace BK570 := kb_ BK570 hb; replace BK571 := kb_ BK571 hb; replace HB := sb_ HB hb; (try clear hb); (try clear hb2); (try clear hk); (try clear hi)))
   go_meet
   case rel => exact ⟨_, (true), rl_, H', ⟨by first | omega | exact Nat.le_refl _⟩, ⟨pk_ BK570⟩, ⟨pk_ BK571⟩, ⟨pb_ HB⟩⟩
  case rest =>
   clear HC5
   try clear c1
   try clear p2
   try clear c4
   try clear c5
   try clear c6
   try clear c10
   try clear c11
   try clear c15
   try clear hcz12_0
   try clear hcz12_1
   try clear hcz14_0
   try clear hcz14_1
   try clear hcz14_2
   try clear hcz14_3
   try clear hcz14_4
   try clear hcz16_0
   try clear hcz16_1
   try clear hfz12_0
   try clear hfz12_1
   try clear hfz14_0
   try clear hfz14_1
   try clear hfz14_2
   try clear hfz14_3
   try clear hfz14_4
   try clear hfz16_0
   try clear hfz16_1
   obtain ⟨kq, x23_4, rfl, HA, HJ4, BK570, BK571, HB⟩ := hcut
   cases kq with
   | zero => exact absurd HA.out (by simp [midrangelaw04_SegmentUndone.j0])
   | succ kj4 =>
    have H := HA.out
    clear HA
    simp only [midrangelaw04_SegmentUndone.j0] at H
    by_cases c18 : x23_4 = true
    ·
     subst c18
     have H1 : (some true) = some r := by rw [if_pos rfl] at H; exact H
     clear H
     have H := H1
     clear H1
     obtain rfl := Option.some.inj H
     go_wp2
     go_ret
     exact ⟨er_, pb_ HB⟩
    replace c18 := Bool.eq_false_iff.mpr c18
    subst c18
    have H1 : ((midrangeref04_Own.f l0_0 a0_1).bind fun bt574 => ((segment_Undo.f kj4 bt574.1 bt574.2 a1_0 a1_1 a1_2 a1_3 a1_4).bind fun bt578 => (if bt578.2 = 0 then ((midrangeref04_Own.f l0_0 a0_1).bind fun bt582 => ((segment_Applied.f kj4 bt582.1 bt582.2 (([(⟨a1_0, a1_1, a1_2, a1_3, a1_4⟩ : S26)] : List (S26)))).bind fun bt589 => (if bt589.2.2.2 = 0 then ((midrangelaw04_few.f kj4 bt589.1 bt589.2.1).bind fun t596 => (midrangelaw04_SegmentUndone.j1 kj4 bt578.1 (!t596) l0_0 a0_1 bt589.1 bt589.2.1)) else (midrangelaw04_SegmentUndone.j1 kj4 bt578.1 true l0_0 a0_1 bt589.1 bt589.2.1)))) else (some true)))) = some r := by rw [if_neg (show ¬ (false = true) by decide)] at H; exact H
    clear H
    have H := H1
    clear H1
    replace H := Option.bind_eq_some_iff.mp H
    obtain ⟨⟨t574, t577⟩, A190, H⟩ := H
    replace H : ((segment_Undo.f kj4 t574 t577 a1_0 a1_1 a1_2 a1_3 a1_4).bind fun bt578 => (if bt578.2 = 0 then ((midrangeref04_Own.f l0_0 a0_1).bind fun bt582 => ((segment_Applied.f kj4 bt582.1 bt582.2 (([(⟨a1_0, a1_1, a1_2, a1_3, a1_4⟩ : S26)] : List (S26)))).bind fun bt589 => (if bt589.2.2.2 = 0 then ((midrangelaw04_few.f kj4 bt589.1 bt589.2.1).bind fun t596 => (midrangelaw04_SegmentUndone.j1 kj4 bt578.1 (!t596) l0_0 a0_1 bt589.1 bt589.2.1)) else (midrangelaw04_SegmentUndone.j1 kj4 bt578.1 true l0_0 a0_1 bt589.1 bt589.2.1)))) else (some true))) = some r := H
    have A19 := Aside0.mk A190
    clear A190
    replace H := Option.bind_eq_some_iff.mp H
    obtain ⟨⟨t578, t581⟩, A200, H⟩ := H
    replace H : (if t581 = 0 then ((midrangeref04_Own.f l0_0 a0_1).bind fun bt582 => ((segment_Applied.f kj4 bt582.1 bt582.2 (([(⟨a1_0, a1_1, a1_2, a1_3, a1_4⟩ : S26)] : List (S26)))).bind fun bt589 => (if bt589.2.2.2 = 0 then ((midrangelaw04_few.f kj4 bt589.1 bt589.2.1).bind fun t596 => (midrangelaw04_SegmentUndone.j1 kj4 t578 (!t596) l0_0 a0_1 bt589.1 bt589.2.1)) else (midrangelaw04_SegmentUndone.j1 kj4 t578 true l0_0 a0_1 bt589.1 bt589.2.1)))) else (some true)) = some r := H
    have A20 := Aside0.mk A200
    clear A200
    by_cases c21 : t581 = 0
    ·
     rw [if_pos c21] at H
     have c21b0 : (t581 == 0) = true := beq_iff_eq.mpr c21
     have c21b1 : (t581 != 0) = false := bne_eq_false_iff_eq.mpr c21
     clear c21
     replace H := Option.bind_eq_some_iff.mp H
     obtain ⟨⟨t582, t585⟩, A220, H⟩ := H
     replace H : ((segment_Applied.f kj4 t582 t585 (([(⟨a1_0, a1_1, a1_2, a1_3, a1_4⟩ : S26)] : List (S26)))).bind fun bt589 => (if bt589.2.2.2 = 0 then ((midrangelaw04_few.f kj4 bt589.1 bt589.2.1).bind fun t596 => (midrangelaw04_SegmentUndone.j1 kj4 t578 (!t596) l0_0 a0_1 bt589.1 bt589.2.1)) else (midrangelaw04_SegmentUndone.j1 kj4 t578 true l0_0 a0_1 bt589.1 bt589.2.1))) = some r := H
     have A22 := Aside0.mk A220
     clear A220
     obtain ⟨y586, hy586⟩ : ∃ y_ : List (S26), y_ = (([(⟨a1_0, a1_1, a1_2, a1_3, a1_4⟩ : S26)] : List (S26))) := ⟨_, rfl⟩
     replace H : ((segment_Applied.f kj4 t582 t585 y586).bind fun bt589 => (if bt589.2.2.2 = 0 then ((midrangelaw04_few.f kj4 bt589.1 bt589.2.1).bind fun t596 => (midrangelaw04_SegmentUndone.j1 kj4 t578 (!t596) l0_0 a0_1 bt589.1 bt589.2.1)) else (midrangelaw04_SegmentUndone.j1 kj4 t578 true l0_0 a0_1 bt589.1 bt589.2.1))) = some r := by first | (rw [hy586]; with_reducible exact H) | (have H2_ := (Option.bind_some _ _).symm.trans H; rw [hy586]; with_reducible exact H2_) | (have H2_ := (Option.bind_some _ _).symm.trans H; with_reducible exact H2_) | with_reducible exact H | (rw [hy586]; exact H) | exact H
     have Ny586 := Aside0.mk hy586
     clear hy586
     replace H := Option.bind_eq_some_iff.mp H
     obtain ⟨⟨t589, t592, t593, t594⟩, A230, H⟩ := H
     replace H : (if t594 = 0 then ((midrangelaw04_few.f kj4 t589 t592).bind fun t596 => (midrangelaw04_SegmentUndone.j1 kj4 t578 (!t596) l0_0 a0_1 t589 t592)) else (midrangelaw04_SegmentUndone.j1 kj4 t578 true l0_0 a0_1 t589 t592)) = some r := H
     have A23 := Aside0.mk A230
     clear A230
     have HC24 := Aside0.mk H
     clear H
     try go_wp2
     replace BK570 := Aside0.mk (blk_drew BK570.out)
     replace BK571 := Aside0.mk (blk_drew BK571.out)
     replace HB := Aside0.mk (below_drew1 HB.out)
     refine start_ (n := 9) (S := fun w' => w'.cell? ⟨gb570, 0, none⟩ = some (.slice A0_0 l0_0.length c0_0) ∧ w'.cell? ⟨gb570, 1, none⟩ = some (.int .i64 a0_1) ∧ w'.cell? ⟨gb571, 0, none⟩ = some (.int .i64 a1_0) ∧ w'.cell? ⟨gb571, 1, none⟩ = some (.int .i64 a1_1) ∧ w'.cell? ⟨gb571, 2, none⟩ = some (.int .i64 a1_2) ∧ w'.cell? ⟨gb571, 3, none⟩ = some (.int .i64 a1_3) ∧ w'.cell? ⟨gb571, 4, none⟩ = some (.string a1_4)) (ds := []) #[false, false, false, false, false, false, false, false, false] (by kernel_rfl) rfl rfl ⟨cy_ BK570 0, cy_ BK570 1, cy_ BK571 0, cy_ BK571 1, cy_ BK571 2, cy_ BK571 3, cy_ BK571 4⟩ (fun hHeld => ?_); refine with_tabW midrangelaw04_SegmentUndone.tab5 midrangelaw04_SegmentUndone.bits5 (fun HT_ HW_ => ?_)
     generalize wc.drew = w25 at BK570 BK571 HB hHeld ⊢
     refine tk_ 0 25 HT_ HW_ hHeld rfl (Or.inl ⟨by rfl, by rintro w' ⟨s0, s1, s2, s3, s4, s5, s6⟩; go_simp; with_reducible rfl⟩) ?_
     refine tk_ 2 27 HT_ HW_ hHeld rfl (Or.inl ⟨by rfl, by rintro w' ⟨s0, s1, s2, s3, s4, s5, s6⟩; go_simp; with_reducible rfl⟩) ?_
     refine one_ (i := 1) (N := some 26) #[true, true, true, false, false, false, false, false, false] rfl rfl (one_of HT_.out (by kernel_rfl)) (by decide) (fun K hK => ?_)
     refine goes_ Tryd.func8 (by kernel_rfl) rfl #[.agg #[.slice A0_0 l0_0.length c0_0, .int .i64 a0_1]] (by rfl) rfl rfl (by (try simp only [List.map_toArray, List.map_cons, List.map_nil]); first | done | rfl | (simp only [List.length_drop, List.length_take]; rfl)) ?_
     with_reducible refine (midrangeref04_Own.calls _ _ l0_0 a0_1 t574 t577 _ ?side1 ?side2 A19.out).mono ?_
     (case side1 => exact pc_ (Kd.C_below HR0_0.out HB.out))
     (case side2 => exact HC0_0.out)
     rintro e w26 ⟨v575, rfl, ho0, hb⟩
     refine ⟨_, rfl, ?_⟩
     have HO576 := Aside0.mk (Kd.R_lower ho0 (below_size (pb_ HB)))
     replace BK570 := kb_ BK570 hb
     replace BK571 := kb_ BK571 hb
     replace HB := sb_ HB hb
     (try clear hb)
     (try clear hb2)
     (try clear hk)
     (try clear hi)
     (try clear ho0)
     obtain ⟨Ao27, co27, eo27⟩ := Kd.R_slice HO576.out
     (first | subst eo27 | (injection eo27 with f1_ f2_ f3_; have f4_ := f1_.symm; have f5_ := f3_.symm; clear f1_ f2_ f3_; subst f4_; subst f5_))
     refine hK.out _ _ ⟨cy_ BK570 0, cy_ BK570 1, cy_ BK571 0, cy_ BK571 1, cy_ BK571 2, cy_ BK571 3, cy_ BK571 4⟩ (fun hHeld => ?_)
     clear hK K
     refine nn_ 26 ?_
     refine one_ (i := 3) (N := some 28) #[true, true, true, true, false, false, false, false, false] rfl rfl (one_of HT_.out (by kernel_rfl)) (by decide) (fun K hK => ?_)
     refine goes_ Tryd.func7 (by kernel_rfl) rfl #[.agg #[.slice Ao27 t574.length co27, .int .i64 t577], .agg #[.int .i64 a1_0, .int .i64 a1_1, .int .i64 a1_2, .int .i64 a1_3, .string a1_4]] (by rfl) rfl rfl (by (try simp only [List.map_toArray, List.map_cons, List.map_nil]); first | done | rfl | (simp only [List.length_drop, List.length_take]; rfl)) ?_
     with_reducible refine (segment_Undo.calls kj4 _ _ t574 t577 a1_0 a1_1 a1_2 a1_3 a1_4 t578 t581 _ ?side1 ?side2 A20.out).mono ?_
     (case side1 => exact pc_ (Kd.R_reads' HO576.out).2.2)
     (case side2 => exact (Kd.R_reads' HO576.out).2.1)
     rintro e w28 ⟨v579, rfl, ho0, hb⟩
     refine ⟨_, rfl, ?_⟩
     replace HO576 := Aside0.mk (Kd.R_below (rk_ HO576) hb)
     have HO580 := Aside0.mk (Kd.R_lower (Kd.R_newB ho0 (g := gb571) (o := .cells #[.int .i64 a1_0, .int .i64 a1_1, .int .i64 a1_2, .int .i64 a1_3, .string a1_4] 26 (0, 0)) (pk_ BK571)) (below_size (pb_ HB)))
     replace BK570 := kb_ BK570 hb
     replace BK571 := kb_ BK571 hb
     replace HB := sb_ HB hb
     (try clear hb)
     (try clear hb2)
     (try clear hk)
     (try clear hi)
     (try clear ho0)
     refine hK.out _ _ ⟨cy_ BK570 0, cy_ BK570 1, cy_ BK571 0, cy_ BK571 1, cy_ BK571 2, cy_ BK571 3, cy_ BK571 4⟩ (fun hHeld => ?_)
     clear hK K
     refine nn_ 28 ?_
     refine pu_ 4 24 HT_ ?_
     refine pu_ 5 29 HT_ ?_
     refine pu_ 6 30 HT_ ?_
     refine pu_ 7 5 HT_ ?_
     refine pu_ 8 6 HT_ ?_
     refine done_ (done_of HT_.out (by kernel_rfl)) ?_
     try go_wp2
     replace HO576 := rd_ HO576
     replace HO580 := rd_ HO580
     replace BK570 := Aside0.mk (blk_drew BK570.out)
     replace BK571 := Aside0.mk (blk_drew BK571.out)
     replace HB := Aside0.mk (below_drew1 HB.out)
     refine start_ (n := 13) (S := fun w' => w'.cell? ⟨gb570, 0, none⟩ = some (.slice A0_0 l0_0.length c0_0) ∧ w'.cell? ⟨gb570, 1, none⟩ = some (.int .i64 a0_1) ∧ w'.cell? ⟨gb571, 0, none⟩ = some (.int .i64 a1_0) ∧ w'.cell? ⟨gb571, 1, none⟩ = some (.int .i64 a1_1) ∧ w'.cell? ⟨gb571, 2, none⟩ = some (.int .i64 a1_2) ∧ w'.cell? ⟨gb571, 3, none⟩ = some (.int .i64 a1_3) ∧ w'.cell? ⟨gb571, 4, none⟩ = some (.string a1_4)) (ds := []) #[false, false, false, false, false, false, false, false, false, false, false, false, false] (by kernel_rfl) rfl rfl ⟨cy_ BK570 0, cy_ BK570 1, cy_ BK571 0, cy_ BK571 1, cy_ BK571 2, cy_ BK571 3, cy_ BK571 4⟩ (fun hHeld => ?_); refine with_tabW midrangelaw04_SegmentUndone.tab8 midrangelaw04_SegmentUndone.bits8 (fun HT_ HW_ => ?_)
     generalize w28.drew = w29 at HO576 HO580 BK570 BK571 HB hHeld ⊢
     refine tk_ 0 34 HT_ HW_ hHeld rfl (Or.inl ⟨by rfl, by rintro w' ⟨s0, s1, s2, s3, s4, s5, s6⟩; go_simp; with_reducible rfl⟩) ?_
     refine tk_ 2 36 HT_ HW_ hHeld rfl (Or.inl ⟨by rfl, by rintro w' ⟨s0, s1, s2, s3, s4, s5, s6⟩; go_simp; with_reducible rfl⟩) ?_
     refine join_ (σ := Value × Value × Value × Nat) 3 #[true, true, true, true, true, true, true, true, true, true, false, false, false] (fun s_ => [(35, .agg #[s_.1, .int .i64 t585]), (37, s_.2.1), (38, .tuple #[.agg #[s_.2.2.1, .int .i64 t592], .int .i64 t593, .int .i64 t594]), (7, .pointer (some ⟨s_.2.2.2, 0, none⟩)), (33, .tuple #[.agg #[s_.2.2.1, .int .i64 t592], .int .i64 t593, .int .i64 t594]), (39, .agg #[s_.2.2.1, .int .i64 t592]), (40, .int .i64 t593), (41, .int .i64 t594)]) (fun s_ w' => (w'.cell? ⟨gb570, 0, none⟩ = some (.slice A0_0 l0_0.length c0_0) ∧ w'.cell? ⟨gb570, 1, none⟩ = some (.int .i64 a0_1) ∧ w'.cell? ⟨gb571, 0, none⟩ = some (.int .i64 a1_0) ∧ w'.cell? ⟨gb571, 1, none⟩ = some (.int .i64 a1_1) ∧ w'.cell? ⟨gb571, 2, none⟩ = some (.int .i64 a1_2) ∧ w'.cell? ⟨gb571, 3, none⟩ = some (.int .i64 a1_3) ∧ w'.cell? ⟨gb571, 4, none⟩ = some (.string a1_4)) ∧ (Kd.R k46 46 w' w.heap.size (fun k_ => some k_ ≠ (s_.1 : Value).ownBlock ∧ some k_ ≠ (s_.2.2.1 : Value).ownBlock) (.slice Ao27 t574.length co27) t574) ∧ (Kd.R k26 26 w' w.heap.size (fun k_ => some k_ ≠ (s_.2.1 : Value).ownBlock ∧ k_ ≠ gb571) v579 t578) ∧ (Kd.R k46 46 w' w.heap.size (fun k_ => some k_ ≠ (.slice Ao27 t574.length co27 : Value).ownBlock ∧ some k_ ≠ (s_.2.2.1 : Value).ownBlock) s_.1 t582) ∧ (Kd.R k26 26 w' w.heap.size (fun k_ => some k_ ≠ (v579 : Value).ownBlock ∧ k_ ≠ gb571) s_.2.1 y586) ∧ (Kd.R k46 46 w' w.heap.size (fun k_ => some k_ ≠ (.slice Ao27 t574.length co27 : Value).ownBlock ∧ some k_ ≠ (s_.1 : Value).ownBlock) s_.2.2.1 t589) ∧ (w'.heap[gb570]? = some (.cells #[.slice A0_0 l0_0.length c0_0, .int .i64 a0_1] 24 (0, 0))) ∧ (w'.heap[gb571]? = some (.cells #[.int .i64 a1_0, .int .i64 a1_1, .int .i64 a1_2, .int .i64 a1_3, .string a1_4] 26 (0, 0))) ∧ (w'.heap[s_.2.2.2]? = some (.cells #[.slice none 0 0, .int .i64 0] 24 (0, 0))) ∧ (w.heap.size ≤ s_.2.2.2) ∧ (w.heap.size ≤ s_.2.2.2) ∧ (gb570 ≠ s_.2.2.2) ∧ (s_.2.2.2 ≠ gb570) ∧ (gb571 ≠ s_.2.2.2) ∧ (s_.2.2.2 ≠ gb571) ∧ (Below w.heap.size w w')) ?_ ?_
     rotate_left
     ·
      intro hJ1_3_4_9
      refine join_ (σ := Value × Value × Value) 4 #[true, true, true, true, true, true, true, true, true, false, false, false, false] (fun s_ => [(35, .agg #[s_.1, .int .i64 t585]), (37, s_.2.1), (38, .tuple #[.agg #[s_.2.2, .int .i64 t592], .int .i64 t593, .int .i64 t594]), (33, .tuple #[.agg #[s_.2.2, .int .i64 t592], .int .i64 t593, .int .i64 t594]), (39, .agg #[s_.2.2, .int .i64 t592]), (40, .int .i64 t593), (41, .int .i64 t594)]) (fun s_ w' => (w'.cell? ⟨gb570, 0, none⟩ = some (.slice A0_0 l0_0.length c0_0) ∧ w'.cell? ⟨gb570, 1, none⟩ = some (.int .i64 a0_1) ∧ w'.cell? ⟨gb571, 0, none⟩ = some (.int .i64 a1_0) ∧ w'.cell? ⟨gb571, 1, none⟩ = some (.int .i64 a1_1) ∧ w'.cell? ⟨gb571, 2, none⟩ = some (.int .i64 a1_2) ∧ w'.cell? ⟨gb571, 3, none⟩ = some (.int .i64 a1_3) ∧ w'.cell? ⟨gb571, 4, none⟩ = some (.string a1_4)) ∧ (Kd.R k46 46 w' w.heap.size (fun k_ => some k_ ≠ (s_.1 : Value).ownBlock ∧ some k_ ≠ (s_.2.2 : Value).ownBlock) (.slice Ao27 t574.length co27) t574) ∧ (Kd.R k26 26 w' w.heap.size (fun k_ => some k_ ≠ (s_.2.1 : Value).ownBlock ∧ k_ ≠ gb571) v579 t578) ∧ (Kd.R k46 46 w' w.heap.size (fun k_ => some k_ ≠ (.slice Ao27 t574.length co27 : Value).ownBlock ∧ some k_ ≠ (s_.2.2 : Value).ownBlock) s_.1 t582) ∧ (Kd.R k26 26 w' w.heap.size (fun k_ => some k_ ≠ (v579 : Value).ownBlock ∧ k_ ≠ gb571) s_.2.1 y586) ∧ (Kd.R k46 46 w' w.heap.size (fun k_ => some k_ ≠ (.slice Ao27 t574.length co27 : Value).ownBlock ∧ some k_ ≠ (s_.1 : Value).ownBlock) s_.2.2 t589) ∧ (w'.heap[gb570]? = some (.cells #[.slice A0_0 l0_0.length c0_0, .int .i64 a0_1] 24 (0, 0))) ∧ (w'.heap[gb571]? = some (.cells #[.int .i64 a1_0, .int .i64 a1_1, .int .i64 a1_2, .int .i64 a1_3, .string a1_4] 26 (0, 0))) ∧ (Below w.heap.size w w')) ?_ ?_
      rotate_left
      ·
       intro hJ1_3_4
       refine join_ (σ := Value × Value × Nat) 8 #[true, true, true, true, false, false, false, false, false, true, false, false, false] (fun s_ => [(35, .agg #[s_.1, .int .i64 t585]), (37, s_.2.1), (7, .pointer (some ⟨s_.2.2, 0, none⟩))]) (fun s_ w' => (w'.cell? ⟨gb570, 0, none⟩ = some (.slice A0_0 l0_0.length c0_0) ∧ w'.cell? ⟨gb570, 1, none⟩ = some (.int .i64 a0_1) ∧ w'.cell? ⟨gb571, 0, none⟩ = some (.int .i64 a1_0) ∧ w'.cell? ⟨gb571, 1, none⟩ = some (.int .i64 a1_1) ∧ w'.cell? ⟨gb571, 2, none⟩ = some (.int .i64 a1_2) ∧ w'.cell? ⟨gb571, 3, none⟩ = some (.int .i64 a1_3) ∧ w'.cell? ⟨gb571, 4, none⟩ = some (.string a1_4)) ∧ (Kd.R k46 46 w' w.heap.size (fun k_ => some k_ ≠ (s_.1 : Value).ownBlock) (.slice Ao27 t574.length co27) t574) ∧ (Kd.R k26 26 w' w.heap.size (fun k_ => some k_ ≠ (s_.2.1 : Value).ownBlock ∧ k_ ≠ gb571) v579 t578) ∧ (Kd.R k46 46 w' w.heap.size (fun k_ => some k_ ≠ (.slice Ao27 t574.length co27 : Value).ownBlock) s_.1 t582) ∧ (Kd.R k26 26 w' w.heap.size (fun k_ => some k_ ≠ (v579 : Value).ownBlock ∧ k_ ≠ gb571) s_.2.1 y586) ∧ (w'.heap[gb570]? = some (.cells #[.slice A0_0 l0_0.length c0_0, .int .i64 a0_1] 24 (0, 0))) ∧ (w'.heap[gb571]? = some (.cells #[.int .i64 a1_0, .int .i64 a1_1, .int .i64 a1_2, .int .i64 a1_3, .string a1_4] 26 (0, 0))) ∧ (w'.heap[s_.2.2]? = some (.cells #[.slice none 0 0, .int .i64 0] 24 (0, 0))) ∧ (w.heap.size ≤ s_.2.2) ∧ (w.heap.size ≤ s_.2.2) ∧ (gb570 ≠ s_.2.2) ∧ (s_.2.2 ≠ gb570) ∧ (gb571 ≠ s_.2.2) ∧ (s_.2.2 ≠ gb571) ∧ (Below w.heap.size w w')) ?_ ?_
       rotate_left
       ·
        intro hJ1_3_9
        refine join_ (σ := Value × Value) 9 #[true, true, true, true, false, false, false, false, false, false, false, false, false] (fun s_ => [(35, .agg #[s_.1, .int .i64 t585]), (37, s_.2)]) (fun s_ w' => (w'.cell? ⟨gb570, 0, none⟩ = some (.slice A0_0 l0_0.length c0_0) ∧ w'.cell? ⟨gb570, 1, none⟩ = some (.int .i64 a0_1) ∧ w'.cell? ⟨gb571, 0, none⟩ = some (.int .i64 a1_0) ∧ w'.cell? ⟨gb571, 1, none⟩ = some (.int .i64 a1_1) ∧ w'.cell? ⟨gb571, 2, none⟩ = some (.int .i64 a1_2) ∧ w'.cell? ⟨gb571, 3, none⟩ = some (.int .i64 a1_3) ∧ w'.cell? ⟨gb571, 4, none⟩ = some (.string a1_4)) ∧ (Kd.R k46 46 w' w.heap.size (fun k_ => some k_ ≠ (s_.1 : Value).ownBlock) (.slice Ao27 t574.length co27) t574) ∧ (Kd.R k26 26 w' w.heap.size (fun k_ => some k_ ≠ (s_.2 : Value).ownBlock ∧ k_ ≠ gb571) v579 t578) ∧ (Kd.R k46 46 w' w.heap.size (fun k_ => some k_ ≠ (.slice Ao27 t574.length co27 : Value).ownBlock) s_.1 t582) ∧ (Kd.R k26 26 w' w.heap.size (fun k_ => some k_ ≠ (v579 : Value).ownBlock ∧ k_ ≠ gb571) s_.2 y586) ∧ (w'.heap[gb570]? = some (.cells #[.slice A0_0 l0_0.length c0_0, .int .i64 a0_1] 24 (0, 0))) ∧ (w'.heap[gb571]? = some (.cells #[.int .i64 a1_0, .int .i64 a1_1, .int .i64 a1_2, .int .i64 a1_3, .string a1_4] 26 (0, 0))) ∧ (Below w.heap.size w w')) ?_ ?_
        rotate_left
        ·
         intro hJ1_3
         refine join_ (σ := Value × Nat) 9 #[true, true, true, false, false, false, false, false, false, true, false, false, false] (fun s_ => [(35, .agg #[s_.1, .int .i64 t585]), (7, .pointer (some ⟨s_.2, 0, none⟩))]) (fun s_ w' => (w'.cell? ⟨gb570, 0, none⟩ = some (.slice A0_0 l0_0.length c0_0) ∧ w'.cell? ⟨gb570, 1, none⟩ = some (.int .i64 a0_1) ∧ w'.cell? ⟨gb571, 0, none⟩ = some (.int .i64 a1_0) ∧ w'.cell? ⟨gb571, 1, none⟩ = some (.int .i64 a1_1) ∧ w'.cell? ⟨gb571, 2, none⟩ = some (.int .i64 a1_2) ∧ w'.cell? ⟨gb571, 3, none⟩ = some (.int .i64 a1_3) ∧ w'.cell? ⟨gb571, 4, none⟩ = some (.string a1_4)) ∧ (Kd.R k46 46 w' w.heap.size (fun k_ => some k_ ≠ (s_.1 : Value).ownBlock) (.slice Ao27 t574.length co27) t574) ∧ (Kd.R k26 26 w' w.heap.size (fun k_ => k_ ≠ gb571) v579 t578) ∧ (Kd.R k46 46 w' w.heap.size (fun k_ => some k_ ≠ (.slice Ao27 t574.length co27 : Value).ownBlock) s_.1 t582) ∧ (w'.heap[gb570]? = some (.cells #[.slice A0_0 l0_0.length c0_0, .int .i64 a0_1] 24 (0, 0))) ∧ (w'.heap[gb571]? = some (.cells #[.int .i64 a1_0, .int .i64 a1_1, .int .i64 a1_2, .int .i64 a1_3, .string a1_4] 26 (0, 0))) ∧ (w'.heap[s_.2]? = some (.cells #[.slice none 0 0, .int .i64 0] 24 (0, 0))) ∧ (w.heap.size ≤ s_.2) ∧ (w.heap.size ≤ s_.2) ∧ (gb570 ≠ s_.2) ∧ (s_.2 ≠ gb570) ∧ (gb571 ≠ s_.2) ∧ (s_.2 ≠ gb571) ∧ (Below w.heap.size w w')) ?_ ?_
         rotate_left
         ·
          intro hJ1_9
          refine join_ (σ := Value × Nat) 9 #[true, false, true, true, false, false, false, false, false, true, false, false, false] (fun s_ => [(37, s_.1), (7, .pointer (some ⟨s_.2, 0, none⟩))]) (fun s_ w' => (w'.cell? ⟨gb570, 0, none⟩ = some (.slice A0_0 l0_0.length c0_0) ∧ w'.cell? ⟨gb570, 1, none⟩ = some (.int .i64 a0_1) ∧ w'.cell? ⟨gb571, 0, none⟩ = some (.int .i64 a1_0) ∧ w'.cell? ⟨gb571, 1, none⟩ = some (.int .i64 a1_1) ∧ w'.cell? ⟨gb571, 2, none⟩ = some (.int .i64 a1_2) ∧ w'.cell? ⟨gb571, 3, none⟩ = some (.int .i64 a1_3) ∧ w'.cell? ⟨gb571, 4, none⟩ = some (.string a1_4)) ∧ (Kd.R k46 46 w' w.heap.size (fun _ => True) (.slice Ao27 t574.length co27) t574) ∧ (Kd.R k26 26 w' w.heap.size (fun k_ => some k_ ≠ (s_.1 : Value).ownBlock ∧ k_ ≠ gb571) v579 t578) ∧ (Kd.R k26 26 w' w.heap.size (fun k_ => some k_ ≠ (v579 : Value).ownBlock ∧ k_ ≠ gb571) s_.1 y586) ∧ (w'.heap[gb570]? = some (.cells #[.slice A0_0 l0_0.length c0_0, .int .i64 a0_1] 24 (0, 0))) ∧ (w'.heap[gb571]? = some (.cells #[.int .i64 a1_0, .int .i64 a1_1, .int .i64 a1_2, .int .i64 a1_3, .string a1_4] 26 (0, 0))) ∧ (w'.heap[s_.2]? = some (.cells #[.slice none 0 0, .int .i64 0] 24 (0, 0))) ∧ (w.heap.size ≤ s_.2) ∧ (w.heap.size ≤ s_.2) ∧ (gb570 ≠ s_.2) ∧ (s_.2 ≠ gb570) ∧ (gb571 ≠ s_.2) ∧ (s_.2 ≠ gb571) ∧ (Below w.heap.size w w')) ?_ ?_
          rotate_left
          ·
           intro hJ3_9
           refine join_ (σ := Value) 10 #[true, true, true, false, false, false, false, false, false, false, false, false, false] (fun s_ => [(35, .agg #[s_, .int .i64 t585])]) (fun s_ w' => (w'.cell? ⟨gb570, 0, none⟩ = some (.slice A0_0 l0_0.length c0_0) ∧ w'.cell? ⟨gb570, 1, none⟩ = some (.int .i64 a0_1) ∧ w'.cell? ⟨gb571, 0, none⟩ = some (.int .i64 a1_0) ∧ w'.cell? ⟨gb571, 1, none⟩ = some (.int .i64 a1_1) ∧ w'.cell? ⟨gb571, 2, none⟩ = some (.int .i64 a1_2) ∧ w'.cell? ⟨gb571, 3, none⟩ = some (.int .i64 a1_3) ∧ w'.cell? ⟨gb571, 4, none⟩ = some (.string a1_4)) ∧ (Kd.R k46 46 w' w.heap.size (fun k_ => some k_ ≠ (s_ : Value).ownBlock) (.slice Ao27 t574.length co27) t574) ∧ (Kd.R k26 26 w' w.heap.size (fun k_ => k_ ≠ gb571) v579 t578) ∧ (Kd.R k46 46 w' w.heap.size (fun k_ => some k_ ≠ (.slice Ao27 t574.length co27 : Value).ownBlock) s_ t582) ∧ (w'.heap[gb570]? = some (.cells #[.slice A0_0 l0_0.length c0_0, .int .i64 a0_1] 24 (0, 0))) ∧ (w'.heap[gb571]? = some (.cells #[.int .i64 a1_0, .int .i64 a1_1, .int .i64 a1_2, .int .i64 a1_3, .string a1_4] 26 (0, 0))) ∧ (Below w.heap.size w w')) ?_ ?_
           rotate_left
           ·
            intro hJ1
            refine join_ (σ := Value) 10 #[true, false, true, true, false, false, false, false, false, false, false, false, false] (fun s_ => [(37, s_)]) (fun s_ w' => (w'.cell? ⟨gb570, 0, none⟩ = some (.slice A0_0 l0_0.length c0_0) ∧ w'.cell? ⟨gb570, 1, none⟩ = some (.int .i64 a0_1) ∧ w'.cell? ⟨gb571, 0, none⟩ = some (.int .i64 a1_0) ∧ w'.cell? ⟨gb571, 1, none⟩ = some (.int .i64 a1_1) ∧ w'.cell? ⟨gb571, 2, none⟩ = some (.int .i64 a1_2) ∧ w'.cell? ⟨gb571, 3, none⟩ = some (.int .i64 a1_3) ∧ w'.cell? ⟨gb571, 4, none⟩ = some (.string a1_4)) ∧ (Kd.R k46 46 w' w.heap.size (fun _ => True) (.slice Ao27 t574.length co27) t574) ∧ (Kd.R k26 26 w' w.heap.size (fun k_ => some k_ ≠ (s_ : Value).ownBlock ∧ k_ ≠ gb571) v579 t578) ∧ (Kd.R k26 26 w' w.heap.size (fun k_ => some k_ ≠ (v579 : Value).ownBlock ∧ k_ ≠ gb571) s_ y586) ∧ (w'.heap[gb570]? = some (.cells #[.slice A0_0 l0_0.length c0_0, .int .i64 a0_1] 24 (0, 0))) ∧ (w'.heap[gb571]? = some (.cells #[.int .i64 a1_0, .int .i64 a1_1, .int .i64 a1_2, .int .i64 a1_3, .string a1_4] 26 (0, 0))) ∧ (Below w.heap.size w w')) ?_ ?_
            rotate_left
            ·
             intro hJ3
             refine join_ (σ := Nat) 10 #[true, false, true, false, false, false, false, false, false, true, false, false, false] (fun s_ => [(7, .pointer (some ⟨s_, 0, none⟩))]) (fun s_ w' => (w'.cell? ⟨gb570, 0, none⟩ = some (.slice A0_0 l0_0.length c0_0) ∧ w'.cell? ⟨gb570, 1, none⟩ = some (.int .i64 a0_1) ∧ w'.cell? ⟨gb571, 0, none⟩ = some (.int .i64 a1_0) ∧ w'.cell? ⟨gb571, 1, none⟩ = some (.int .i64 a1_1) ∧ w'.cell? ⟨gb571, 2, none⟩ = some (.int .i64 a1_2) ∧ w'.cell? ⟨gb571, 3, none⟩ = some (.int .i64 a1_3) ∧ w'.cell? ⟨gb571, 4, none⟩ = some (.string a1_4)) ∧ (Kd.R k46 46 w' w.heap.size (fun _ => True) (.slice Ao27 t574.length co27) t574) ∧ (Kd.R k26 26 w' w.heap.size (fun k_ => k_ ≠ gb571) v579 t578) ∧ (w'.heap[gb570]? = some (.cells #[.slice A0_0 l0_0.length c0_0, .int .i64 a0_1] 24 (0, 0))) ∧ (w'.heap[gb571]? = some (.cells #[.int .i64 a1_0, .int .i64 a1_1, .int .i64 a1_2, .int .i64 a1_3, .string a1_4] 26 (0, 0))) ∧ (w'.heap[s_]? = some (.cells #[.slice none 0 0, .int .i64 0] 24 (0, 0))) ∧ (w.heap.size ≤ s_) ∧ (w.heap.size ≤ s_) ∧ (gb570 ≠ s_) ∧ (s_ ≠ gb570) ∧ (gb571 ≠ s_) ∧ (s_ ≠ gb571) ∧ (Below w.heap.size w w')) ?_ ?_
             rotate_left
             ·
              intro hJ9
              refine three_ (i := 1) (j := 3) (k := 9) (Ni := some 35) (Nj := some 37) (Nk := some 7) #[true, true, true, false, false, false, false, false, false, false, false, false, false] #[true, false, true, true, false, false, false, false, false, false, false, false, false] #[true, false, true, false, false, false, false, false, false, true, false, false, false] rfl rfl rfl rfl rfl rfl (three_of HT_.out (by kernel_rfl)) (by decide) (by decide) (by decide) (fun K hK => ?_) (fun K hK => ?_) (fun K hK => ?_)
              ·
               refine goes_ Tryd.func8 (by kernel_rfl) rfl #[.agg #[.slice A0_0 l0_0.length c0_0, .int .i64 a0_1]] (by rfl) rfl rfl (by (try simp only [List.map_toArray, List.map_cons, List.map_nil]); first | done | rfl | (simp only [List.length_drop, List.length_take]; rfl)) ?_
               with_reducible refine (midrangeref04_Own.calls _ _ l0_0 a0_1 t582 t585 _ ?side1 ?side2 A22.out).mono ?_
               (case side1 => exact pc_ (Kd.C_below HR0_0.out HB.out))
               (case side2 => exact HC0_0.out)
               rintro e w30 ⟨v583, rfl, ho0, hb⟩
               refine ⟨_, rfl, ?_⟩
               replace HO580 := Aside0.mk (Kd.R_below (rk_ HO580) hb)
               have HO584 := Aside0.mk (Kd.R_lower (Kd.R_new' ho0 (Kd.R_lt (rk_ HO576))) (below_size (pb_ HB)))
               replace HO576 := Aside0.mk (Kd.R_elder' (rk_ HO576) (Kd.R_base ho0) hb)
               replace BK570 := kb_ BK570 hb
               replace BK571 := kb_ BK571 hb
               replace HB := sb_ HB hb
               (try clear hb)
               (try clear hb2)
               (try clear hk)
               (try clear hi)
               (try clear ho0)
               refine hK.out _ _ ⟨cy_ BK570 0, cy_ BK570 1, cy_ BK571 0, cy_ BK571 1, cy_ BK571 2, cy_ BK571 3, cy_ BK571 4⟩ (fun hHeld => ?_)
               clear hK K
               refine nn_ 35 ?_
               exact norm_ pa_ (hJ1 (v583) _ ⟨hHeld, (by (with_reducible repeat (first | apply Kd.R_alloc | apply Kd.R_drewN | apply Kd.R_drew)); exact Kd.R_mono HO576.out (fun _ hk => hk.2)), (by (with_reducible repeat (first | apply Kd.R_alloc | apply Kd.R_drewN | apply Kd.R_drew)); exact Kd.R_mono HO580.out (fun _ hk => hk.2)), (by (with_reducible repeat (first | apply Kd.R_alloc | apply Kd.R_drewN | apply Kd.R_drew)); exact Kd.R_mono HO584.out (fun _ hk => hk.2)), (pk_ BK570), (pk_ BK571), (pb_ HB)⟩)
              ·
               refine Kd.R_lit_step k26 _ 26 ?hg (N := 37) ?hd (xs := ([(⟨a1_0, a1_1, a1_2, a1_3, a1_4⟩ : S26)] : List (S26))) (inner := [.int .i64 a1_0, .int .i64 a1_1, .int .i64 a1_2, .int .i64 a1_3, .string a1_4]) (ok := fun _ => True) (okp := fun _ => True) ?hr ?hp (fun _ hk => hk) trivial (Below.refl _ _) (Nat.le_refl _) (by simp) ?_; (case hd => rfl); (case hg => rfl); (case hr => first | (go_simp; done) | (go_simp; rfl)); (case hp => exact (Reps.c5 (show Kd.M k26 _ _ _ (⟨a1_0, a1_1, a1_2, a1_3, a1_4⟩ : S26) [.int .i64 a1_0, .int .i64 a1_1, .int .i64 a1_2, .int .i64 a1_3, .string a1_4] from (k26_mkM _ _ _ (⟨a1_0, a1_1, a1_2, a1_3, a1_4⟩ : S26) )) (Reps.none _ _)))
               intro v587 w30 ho31 hb hg_ hnew_
               clear hg_ hnew_
               (first | rw [← Ny586.out] at ho31 | (simp only [Int.reduceToNat] at ho31; rw [← Ny586.out] at ho31))
               replace HO576 := Aside0.mk (Kd.R_below (rk_ HO576) hb)
               have HO588 := Aside0.mk (Kd.R_lower (Kd.R_newB (Kd.R_new' ho31 (Kd.R_lt (rk_ HO580))) (g := gb571) (o := .cells #[.int .i64 a1_0, .int .i64 a1_1, .int .i64 a1_2, .int .i64 a1_3, .string a1_4] 26 (0, 0)) (pk_ BK571)) (below_size (pb_ HB)))
               replace HO580 := Aside0.mk (Kd.R_elder' (rk_ HO580) (Kd.R_base ho31) hb)
               replace BK570 := kb_ BK570 hb
               replace BK571 := kb_ BK571 hb
               replace HB := sb_ HB hb
               clear hb ho31
               refine hK.out _ _ ⟨cy_ BK570 0, cy_ BK570 1, cy_ BK571 0, cy_ BK571 1, cy_ BK571 2, cy_ BK571 3, cy_ BK571 4⟩ (fun hHeld => ?_)
               clear hK K
               refine nn_ 37 ?_
               exact norm_ pa_ (hJ3 (v587) _ ⟨hHeld, (rk_ HO576), (by (with_reducible repeat (first | apply Kd.R_alloc | apply Kd.R_drewN | apply Kd.R_drew)); exact Kd.R_mono HO580.out (fun _ hk => ⟨hk.2, hk.1.2⟩)), (by (with_reducible repeat (first | apply Kd.R_alloc | apply Kd.R_drewN | apply Kd.R_drew)); exact Kd.R_mono HO588.out (fun _ hk => ⟨hk.1.2, hk.2⟩)), (pk_ BK570), (pk_ BK571), (pb_ HB)⟩)
              skip
              refine box_step ?hg (N := 7) ?hd (cs := #[.slice none 0 0, .int .i64 0]) (t := 24) ?hr ?_; (case hd => rfl); (case hg => rfl); (case hr => first | (go_simp; done) | (go_simp; rfl))
              intro gb595 hg w30 hbox hb
              replace HO576 := Aside0.mk (Kd.R_below (rk_ HO576) hb)
              replace HO580 := Aside0.mk (Kd.R_below (rk_ HO580) hb)
              have BK595 := Aside0.mk (hbox)
              have GW595 := gw_ hg HB
              have GE595 := gw_ hg HB
              replace HB := sb_ HB hb
              have NB570_595 := nl_ hg BK570
              have NB595_570 := ng_ hg BK570
              replace BK570 := kb_ BK570 hb
              have NB571_595 := nl_ hg BK571
              have NB595_571 := ng_ hg BK571
              replace BK571 := kb_ BK571 hb
              clear hb hbox hg
              refine hK.out _ _ ⟨cy_ BK570 0, cy_ BK570 1, cy_ BK571 0, cy_ BK571 1, cy_ BK571 2, cy_ BK571 3, cy_ BK571 4⟩ (fun hHeld => ?_)
              clear hK K
              refine nn_ 7 ?_
              exact norm_ pa_ (hJ9 (gb595) _ ⟨hHeld, (rk_ HO576), (by (with_reducible repeat (first | apply Kd.R_alloc | apply Kd.R_drewN | apply Kd.R_drew)); exact Kd.R_mono HO580.out (fun _ hk => hk.2)), (pk_ BK570), (pk_ BK571), (pk_ BK595), GW595.out, GE595.out, NB570_595.out, NB595_570.out, NB571_595.out, NB595_571.out, (pb_ HB)⟩)
             skip
             clear HO576 HO580 BK570 BK571 HB
             rintro gb595 w31 ⟨hHeld, HO576, HO580, BK570, BK571, BK595, GW595, GE595, NB570_595, NB595_570, NB571_595, NB595_571, HB⟩
             try dsimp only at hHeld HO576 HO580 BK570 BK571 BK595 GW595 GE595 NB570_595 NB595_570 NB571_595 NB595_571 HB
             replace HO576 := Aside0.mk HO576
             replace HO580 := Aside0.mk HO580
             replace BK570 := Aside0.mk BK570
             replace BK571 := Aside0.mk BK571
             replace BK595 := Aside0.mk BK595
             replace GW595 := Aside0.mk GW595
             replace GE595 := Aside0.mk GE595
             replace NB570_595 := Aside0.mk NB570_595
             replace NB595_570 := Aside0.mk NB595_570
             replace NB571_595 := Aside0.mk NB571_595
             replace NB595_571 := Aside0.mk NB595_571
             replace HB := Aside0.mk HB
             refine nm_ ?_
             refine two_ (i := 1) (j := 3) (Ni := some 35) (Nj := some 37) #[true, true, true, false, false, false, false, false, false, true, false, false, false] #[true, false, true, true, false, false, false, false, false, true, false, false, false] rfl rfl rfl rfl (two_of HT_.out (by kernel_rfl)) (by decide) (by decide) (fun K hK => ?_) (fun K hK => ?_)
             ·
              refine goes_ Tryd.func8 (by kernel_rfl) rfl #[.agg #[.slice A0_0 l0_0.length c0_0, .int .i64 a0_1]] (by rfl) rfl rfl (by (try simp only [List.map_toArray, List.map_cons, List.map_nil]); first | done | rfl | (simp only [List.length_drop, List.length_take]; rfl)) ?_
              with_reducible refine (midrangeref04_Own.calls _ _ l0_0 a0_1 t582 t585 _ ?side1 ?side2 A22.out).mono ?_
              (case side1 => exact pc_ (Kd.C_below HR0_0.out HB.out))
              (case side2 => exact HC0_0.out)
              rintro e w32 ⟨v583, rfl, ho0, hb⟩
              refine ⟨_, rfl, ?_⟩
              replace HO580 := Aside0.mk (Kd.R_below (rk_ HO580) hb)
              have HO584 := Aside0.mk (Kd.R_lower (Kd.R_new' ho0 (Kd.R_lt (rk_ HO576))) (below_size (pb_ HB)))
              replace HO576 := Aside0.mk (Kd.R_elder' (rk_ HO576) (Kd.R_base ho0) hb)
              replace BK570 := kb_ BK570 hb
              replace BK571 := kb_ BK571 hb
              replace BK595 := kb_ BK595 hb
              replace HB := sb_ HB hb
              (try clear hb)
              (try clear hb2)
              (try clear hk)
              (try clear hi)
              (try clear ho0)
              refine hK.out _ _ ⟨cy_ BK570 0, cy_ BK570 1, cy_ BK571 0, cy_ BK571 1, cy_ BK571 2, cy_ BK571 3, cy_ BK571 4⟩ (fun hHeld => ?_)
              clear hK K
              refine nn_ 35 ?_
              exact norm_ pa_ (hJ1_9 (v583, gb595) _ ⟨hHeld, (by (with_reducible repeat (first | apply Kd.R_alloc | apply Kd.R_drewN | apply Kd.R_drew)); exact Kd.R_mono HO576.out (fun _ hk => hk.2)), (rk_ HO580), (by (with_reducible repeat (first | apply Kd.R_alloc | apply Kd.R_drewN | apply Kd.R_drew)); exact Kd.R_mono HO584.out (fun _ hk => hk.2)), (pk_ BK570), (pk_ BK571), (pk_ BK595), GW595.out, GE595.out, NB570_595.out, NB595_570.out, NB571_595.out, NB595_571.out, (pb_ HB)⟩)
             skip
             refine Kd.R_lit_step k26 _ 26 ?hg (N := 37) ?hd (xs := ([(⟨a1_0, a1_1, a1_2, a1_3, a1_4⟩ : S26)] : List (S26))) (inner := [.int .i64 a1_0, .int .i64 a1_1, .int .i64 a1_2, .int .i64 a1_3, .string a1_4]) (ok := fun _ => True) (okp := fun _ => True) ?hr ?hp (fun _ hk => hk) trivial (Below.refl _ _) (Nat.le_refl _) (by simp) ?_; (case hd => rfl); (case hg => rfl); (case hr => first | (go_simp; done) | (go_simp; rfl)); (case hp => exact (Reps.c5 (show Kd.M k26 _ _ _ (⟨a1_0, a1_1, a1_2, a1_3, a1_4⟩ : S26) [.int .i64 a1_0, .int .i64 a1_1, .int .i64 a1_2, .int .i64 a1_3, .string a1_4] from (k26_mkM _ _ _ (⟨a1_0, a1_1, a1_2, a1_3, a1_4⟩ : S26) )) (Reps.none _ _)))
             intro v587 w32 ho33 hb hg_ hnew_
             clear hg_ hnew_
             (first | rw [← Ny586.out] at ho33 | (simp only [Int.reduceToNat] at ho33; rw [← Ny586.out] at ho33))
             replace HO576 := Aside0.mk (Kd.R_below (rk_ HO576) hb)
             have HO588 := Aside0.mk (Kd.R_lower (Kd.R_newB (Kd.R_new' ho33 (Kd.R_lt (rk_ HO580))) (g := gb571) (o := .cells #[.int .i64 a1_0, .int .i64 a1_1, .int .i64 a1_2, .int .i64 a1_3, .string a1_4] 26 (0, 0)) (pk_ BK571)) (below_size (pb_ HB)))
             replace HO580 := Aside0.mk (Kd.R_elder' (rk_ HO580) (Kd.R_base ho33) hb)
             replace BK570 := kb_ BK570 hb
             replace BK571 := kb_ BK571 hb
             replace BK595 := kb_ BK595 hb
             replace HB := sb_ HB hb
             clear hb ho33
             refine hK.out _ _ ⟨cy_ BK570 0, cy_ BK570 1, cy_ BK571 0, cy_ BK571 1, cy_ BK571 2, cy_ BK571 3, cy_ BK571 4⟩ (fun hHeld => ?_)
             clear hK K
             refine nn_ 37 ?_
             exact norm_ pa_ (hJ3_9 (v587, gb595) _ ⟨hHeld, (rk_ HO576), (by (with_reducible repeat (first | apply Kd.R_alloc | apply Kd.R_drewN | apply Kd.R_drew)); exact Kd.R_mono HO580.out (fun _ hk => ⟨hk.2, hk.1⟩)), (by (with_reducible repeat (first | apply Kd.R_alloc | apply Kd.R_drewN | apply Kd.R_drew)); exact Kd.R_mono HO588.out (fun _ hk => ⟨hk.1.2, hk.2⟩)), (pk_ BK570), (pk_ BK571), (pk_ BK595), GW595.out, GE595.out, NB570_595.out, NB595_570.out, NB571_595.out, NB595_571.out, (pb_ HB)⟩)
            skip
            clear HO576 HO580 BK570 BK571 HB
            rintro v587 w32 ⟨hHeld, HO576, HO580, HO588, BK570, BK571, HB⟩
            try dsimp only at hHeld HO576 HO580 HO588 BK570 BK571 HB
            replace HO576 := Aside0.mk HO576
            replace HO580 := Aside0.mk HO580
            replace HO588 := Aside0.mk HO588
            replace BK570 := Aside0.mk BK570
            replace BK571 := Aside0.mk BK571
            replace HB := Aside0.mk HB
            refine nm_ ?_
            refine two_ (i := 1) (j := 9) (Ni := some 35) (Nj := some 7) #[true, true, true, true, false, false, false, false, false, false, false, false, false] #[true, false, true, true, false, false, false, false, false, true, false, false, false] rfl rfl rfl rfl (two_of HT_.out (by kernel_rfl)) (by decide) (by decide) (fun K hK => ?_) (fun K hK => ?_)
            ·
             refine goes_ Tryd.func8 (by kernel_rfl) rfl #[.agg #[.slice A0_0 l0_0.length c0_0, .int .i64 a0_1]] (by rfl) rfl rfl (by (try simp only [List.map_toArray, List.map_cons, List.map_nil]); first | done | rfl | (simp only [List.length_drop, List.length_take]; rfl)) ?_
             with_reducible refine (midrangeref04_Own.calls _ _ l0_0 a0_1 t582 t585 _ ?side1 ?side2 A22.out).mono ?_
             (case side1 => exact pc_ (Kd.C_below HR0_0.out HB.out))
             (case side2 => exact HC0_0.out)
             rintro e w33 ⟨v583, rfl, ho0, hb⟩
             refine ⟨_, rfl, ?_⟩
             replace HO580 := Aside0.mk (Kd.R_below (rk_ HO580) hb)
             replace HO588 := Aside0.mk (Kd.R_below (rk_ HO588) hb)
             have HO584 := Aside0.mk (Kd.R_lower (Kd.R_new' ho0 (Kd.R_lt (rk_ HO576))) (below_size (pb_ HB)))
             replace HO576 := Aside0.mk (Kd.R_elder' (rk_ HO576) (Kd.R_base ho0) hb)
             replace BK570 := kb_ BK570 hb
             replace BK571 := kb_ BK571 hb
             replace HB := sb_ HB hb
             (try clear hb)
             (try clear hb2)
             (try clear hk)
             (try clear hi)
             (try clear ho0)
             refine hK.out _ _ ⟨cy_ BK570 0, cy_ BK570 1, cy_ BK571 0, cy_ BK571 1, cy_ BK571 2, cy_ BK571 3, cy_ BK571 4⟩ (fun hHeld => ?_)
             clear hK K
             refine nn_ 35 ?_
             exact norm_ pa_ (hJ1_3 (v583, v587) _ ⟨hHeld, (by (with_reducible repeat (first | apply Kd.R_alloc | apply Kd.R_drewN | apply Kd.R_drew)); exact Kd.R_mono HO576.out (fun _ hk => hk.2)), (rk_ HO580), (by (with_reducible repeat (first | apply Kd.R_alloc | apply Kd.R_drewN | apply Kd.R_drew)); exact Kd.R_mono HO584.out (fun _ hk => hk.2)), (rk_ HO588), (pk_ BK570), (pk_ BK571), (pb_ HB)⟩)
            skip
            refine box_step ?hg (N := 7) ?hd (cs := #[.slice none 0 0, .int .i64 0]) (t := 24) ?hr ?_; (case hd => rfl); (case hg => rfl); (case hr => first | (go_simp; done) | (go_simp; rfl))
            intro gb595 hg w33 hbox hb
            replace HO576 := Aside0.mk (Kd.R_below (rk_ HO576) hb)
            replace HO580 := Aside0.mk (Kd.R_below (rk_ HO580) hb)
            replace HO588 := Aside0.mk (Kd.R_below (rk_ HO588) hb)
            have BK595 := Aside0.mk (hbox)
            have GW595 := gw_ hg HB
            have GE595 := gw_ hg HB
            replace HB := sb_ HB hb
            have NB570_595 := nl_ hg BK570
            have NB595_570 := ng_ hg BK570
            replace BK570 := kb_ BK570 hb
            have NB571_595 := nl_ hg BK571
            have NB595_571 := ng_ hg BK571
            replace BK571 := kb_ BK571 hb
            clear hb hbox hg
            refine hK.out _ _ ⟨cy_ BK570 0, cy_ BK570 1, cy_ BK571 0, cy_ BK571 1, cy_ BK571 2, cy_ BK571 3, cy_ BK571 4⟩ (fun hHeld => ?_)
            clear hK K
            refine nn_ 7 ?_
            exact norm_ pa_ (hJ3_9 (v587, gb595) _ ⟨hHeld, (rk_ HO576), (rk_ HO580), (rk_ HO588), (pk_ BK570), (pk_ BK571), (pk_ BK595), GW595.out, GE595.out, NB570_595.out, NB595_570.out, NB571_595.out, NB595_571.out, (pb_ HB)⟩)
           skip
           clear HO576 HO580 BK570 BK571 HB
           rintro v583 w31 ⟨hHeld, HO576, HO580, HO584, BK570, BK571, HB⟩
           try dsimp only at hHeld HO576 HO580 HO584 BK570 BK571 HB
           replace HO576 := Aside0.mk HO576
           replace HO580 := Aside0.mk HO580
           replace HO584 := Aside0.mk HO584
           replace BK570 := Aside0.mk BK570
           replace BK571 := Aside0.mk BK571
           replace HB := Aside0.mk HB
           refine nm_ ?_
           refine two_ (i := 3) (j := 9) (Ni := some 37) (Nj := some 7) #[true, true, true, true, false, false, false, false, false, false, false, false, false] #[true, true, true, false, false, false, false, false, false, true, false, false, false] rfl rfl rfl rfl (two_of HT_.out (by kernel_rfl)) (by decide) (by decide) (fun K hK => ?_) (fun K hK => ?_)
           ·
            refine Kd.R_lit_step k26 _ 26 ?hg (N := 37) ?hd (xs := ([(⟨a1_0, a1_1, a1_2, a1_3, a1_4⟩ : S26)] : List (S26))) (inner := [.int .i64 a1_0, .int .i64 a1_1, .int .i64 a1_2, .int .i64 a1_3, .string a1_4]) (ok := fun _ => True) (okp := fun _ => True) ?hr ?hp (fun _ hk => hk) trivial (Below.refl _ _) (Nat.le_refl _) (by simp) ?_; (case hd => rfl); (case hg => rfl); (case hr => first | (go_simp; done) | (go_simp; rfl)); (case hp => exact (Reps.c5 (show Kd.M k26 _ _ _ (⟨a1_0, a1_1, a1_2, a1_3, a1_4⟩ : S26) [.int .i64 a1_0, .int .i64 a1_1, .int .i64 a1_2, .int .i64 a1_3, .string a1_4] from (k26_mkM _ _ _ (⟨a1_0, a1_1, a1_2, a1_3, a1_4⟩ : S26) )) (Reps.none _ _)))
            intro v587 w32 ho33 hb hg_ hnew_
            clear hg_ hnew_
            (first | rw [← Ny586.out] at ho33 | (simp only [Int.reduceToNat] at ho33; rw [← Ny586.out] at ho33))
            replace HO576 := Aside0.mk (Kd.R_below (rk_ HO576) hb)
            replace HO584 := Aside0.mk (Kd.R_below (rk_ HO584) hb)
            have HO588 := Aside0.mk (Kd.R_lower (Kd.R_newB (Kd.R_new' ho33 (Kd.R_lt (rk_ HO580))) (g := gb571) (o := .cells #[.int .i64 a1_0, .int .i64 a1_1, .int .i64 a1_2, .int .i64 a1_3, .string a1_4] 26 (0, 0)) (pk_ BK571)) (below_size (pb_ HB)))
            replace HO580 := Aside0.mk (Kd.R_elder' (rk_ HO580) (Kd.R_base ho33) hb)
            replace BK570 := kb_ BK570 hb
            replace BK571 := kb_ BK571 hb
            replace HB := sb_ HB hb
            clear hb ho33
            refine hK.out _ _ ⟨cy_ BK570 0, cy_ BK570 1, cy_ BK571 0, cy_ BK571 1, cy_ BK571 2, cy_ BK571 3, cy_ BK571 4⟩ (fun hHeld => ?_)
            clear hK K
            refine nn_ 37 ?_
            exact norm_ pa_ (hJ1_3 (v583, v587) _ ⟨hHeld, (rk_ HO576), (by (with_reducible repeat (first | apply Kd.R_alloc | apply Kd.R_drewN | apply Kd.R_drew)); exact Kd.R_mono HO580.out (fun _ hk => ⟨hk.2, hk.1⟩)), (rk_ HO584), (by (with_reducible repeat (first | apply Kd.R_alloc | apply Kd.R_drewN | apply Kd.R_drew)); exact Kd.R_mono HO588.out (fun _ hk => ⟨hk.1.2, hk.2⟩)), (pk_ BK570), (pk_ BK571), (pb_ HB)⟩)
           skip
           refine box_step ?hg (N := 7) ?hd (cs := #[.slice none 0 0, .int .i64 0]) (t := 24) ?hr ?_; (case hd => rfl); (case hg => rfl); (case hr => first | (go_simp; done) | (go_simp; rfl))
           intro gb595 hg w32 hbox hb
           replace HO576 := Aside0.mk (Kd.R_below (rk_ HO576) hb)
           replace HO580 := Aside0.mk (Kd.R_below (rk_ HO580) hb)
           replace HO584 := Aside0.mk (Kd.R_below (rk_ HO584) hb)
           have BK595 := Aside0.mk (hbox)
           have GW595 := gw_ hg HB
           have GE595 := gw_ hg HB
           replace HB := sb_ HB hb
           have NB570_595 := nl_ hg BK570
           have NB595_570 := ng_ hg BK570
           replace BK570 := kb_ BK570 hb
           have NB571_595 := nl_ hg BK571
           have NB595_571 := ng_ hg BK571
           replace BK571 := kb_ BK571 hb
           clear hb hbox hg
           refine hK.out _ _ ⟨cy_ BK570 0, cy_ BK570 1, cy_ BK571 0, cy_ BK571 1, cy_ BK571 2, cy_ BK571 3, cy_ BK571 4⟩ (fun hHeld => ?_)
           clear hK K
           refine nn_ 7 ?_
           exact norm_ pa_ (hJ1_9 (v583, gb595) _ ⟨hHeld, (rk_ HO576), (rk_ HO580), (rk_ HO584), (pk_ BK570), (pk_ BK571), (pk_ BK595), GW595.out, GE595.out, NB570_595.out, NB595_570.out, NB571_595.out, NB595_571.out, (pb_ HB)⟩)
          skip
          clear HO576 HO580 BK570 BK571 HB
          rintro ⟨v587, gb595⟩ w33 ⟨hHeld, HO576, HO580, HO588, BK570, BK571, BK595, GW595, GE595, NB570_595, NB595_570, NB571_595, NB595_571, HB⟩
          try dsimp only at hHeld HO576 HO580 HO588 BK570 BK571 BK595 GW595 GE595 NB570_595 NB595_570 NB571_595 NB595_571 HB
          replace HO576 := Aside0.mk HO576
          replace HO580 := Aside0.mk HO580
          replace HO588 := Aside0.mk HO588
          replace BK570 := Aside0.mk BK570
          replace BK571 := Aside0.mk BK571
          replace BK595 := Aside0.mk BK595
          replace GW595 := Aside0.mk GW595
          replace GE595 := Aside0.mk GE595
          replace NB570_595 := Aside0.mk NB570_595
          replace NB595_570 := Aside0.mk NB595_570
          replace NB571_595 := Aside0.mk NB571_595
          replace NB595_571 := Aside0.mk NB595_571
          replace HB := Aside0.mk HB
          refine nm_ ?_
          refine one_ (i := 1) (N := some 35) #[true, true, true, true, false, false, false, false, false, true, false, false, false] rfl rfl (one_of HT_.out (by kernel_rfl)) (by decide) (fun K hK => ?_)
          refine goes_ Tryd.func8 (by kernel_rfl) rfl #[.agg #[.slice A0_0 l0_0.length c0_0, .int .i64 a0_1]] (by rfl) rfl rfl (by (try simp only [List.map_toArray, List.map_cons, List.map_nil]); first | done | rfl | (simp only [List.length_drop, List.length_take]; rfl)) ?_
          with_reducible refine (midrangeref04_Own.calls _ _ l0_0 a0_1 t582 t585 _ ?side1 ?side2 A22.out).mono ?_
          (case side1 => exact pc_ (Kd.C_below HR0_0.out HB.out))
          (case side2 => exact HC0_0.out)
          rintro e w34 ⟨v583, rfl, ho0, hb⟩
          refine ⟨_, rfl, ?_⟩
          replace HO580 := Aside0.mk (Kd.R_below (rk_ HO580) hb)
          replace HO588 := Aside0.mk (Kd.R_below (rk_ HO588) hb)
          have HO584 := Aside0.mk (Kd.R_lower (Kd.R_new' ho0 (Kd.R_lt (rk_ HO576))) (below_size (pb_ HB)))
          replace HO576 := Aside0.mk (Kd.R_elder' (rk_ HO576) (Kd.R_base ho0) hb)
          replace BK570 := kb_ BK570 hb
          replace BK571 := kb_ BK571 hb
          replace BK595 := kb_ BK595 hb
          replace HB := sb_ HB hb
          (try clear hb)
          (try clear hb2)
          (try clear hk)
          (try clear hi)
          (try clear ho0)
          refine hK.out _ _ ⟨cy_ BK570 0, cy_ BK570 1, cy_ BK571 0, cy_ BK571 1, cy_ BK571 2, cy_ BK571 3, cy_ BK571 4⟩ (fun hHeld => ?_)
          clear hK K
          refine nn_ 35 ?_
          exact norm_ pa_ (hJ1_3_9 (v583, v587, gb595) _ ⟨hHeld, (by (with_reducible repeat (first | apply Kd.R_alloc | apply Kd.R_drewN | apply Kd.R_drew)); exact Kd.R_mono HO576.out (fun _ hk => hk.2)), (rk_ HO580), (by (with_reducible repeat (first | apply Kd.R_alloc | apply Kd.R_drewN | apply Kd.R_drew)); exact Kd.R_mono HO584.out (fun _ hk => hk.2)), (rk_ HO588), (pk_ BK570), (pk_ BK571), (pk_ BK595), GW595.out, GE595.out, NB570_595.out, NB595_570.out, NB571_595.out, NB595_571.out, (pb_ HB)⟩)
         skip
         clear HO576 HO580 BK570 BK571 HB
         rintro ⟨v583, gb595⟩ w32 ⟨hHeld, HO576, HO580, HO584, BK570, BK571, BK595, GW595, GE595, NB570_595, NB595_570, NB571_595, NB595_571, HB⟩
         try dsimp only at hHeld HO576 HO580 HO584 BK570 BK571 BK595 GW595 GE595 NB570_595 NB595_570 NB571_595 NB595_571 HB
         replace HO576 := Aside0.mk HO576
         replace HO580 := Aside0.mk HO580
         replace HO584 := Aside0.mk HO584
         replace BK570 := Aside0.mk BK570
         replace BK571 := Aside0.mk BK571
         replace BK595 := Aside0.mk BK595
         replace GW595 := Aside0.mk GW595
         replace GE595 := Aside0.mk GE595
         replace NB570_595 := Aside0.mk NB570_595
         replace NB595_570 := Aside0.mk NB595_570
         replace NB571_595 := Aside0.mk NB571_595
         replace NB595_571 := Aside0.mk NB595_571
         replace HB := Aside0.mk HB
         refine nm_ ?_
         refine one_ (i := 3) (N := some 37) #[true, true, true, true, false, false, false, false, false, true, false, false, false] rfl rfl (one_of HT_.out (by kernel_rfl)) (by decide) (fun K hK => ?_)
         refine Kd.R_lit_step k26 _ 26 ?hg (N := 37) ?hd (xs := ([(⟨a1_0, a1_1, a1_2, a1_3, a1_4⟩ : S26)] : List (S26))) (inner := [.int .i64 a1_0, .int .i64 a1_1, .int .i64 a1_2, .int .i64 a1_3, .string a1_4]) (ok := fun _ => True) (okp := fun _ => True) ?hr ?hp (fun _ hk => hk) trivial (Below.refl _ _) (Nat.le_refl _) (by simp) ?_; (case hd => rfl); (case hg => rfl); (case hr => first | (go_simp; done) | (go_simp; rfl)); (case hp => exact (Reps.c5 (show Kd.M k26 _ _ _ (⟨a1_0, a1_1, a1_2, a1_3, a1_4⟩ : S26) [.int .i64 a1_0, .int .i64 a1_1, .int .i64 a1_2, .int .i64 a1_3, .string a1_4] from (k26_mkM _ _ _ (⟨a1_0, a1_1, a1_2, a1_3, a1_4⟩ : S26) )) (Reps.none _ _)))
         intro v587 w33 ho34 hb hg_ hnew_
         clear hg_ hnew_
         (first | rw [← Ny586.out] at ho34 | (simp only [Int.reduceToNat] at ho34; rw [← Ny586.out] at ho34))
         replace HO576 := Aside0.mk (Kd.R_below (rk_ HO576) hb)
         replace HO584 := Aside0.mk (Kd.R_below (rk_ HO584) hb)
         have HO588 := Aside0.mk (Kd.R_lower (Kd.R_newB (Kd.R_new' ho34 (Kd.R_lt (rk_ HO580))) (g := gb571) (o := .cells #[.int .i64 a1_0, .int .i64 a1_1, .int .i64 a1_2, .int .i64 a1_3, .string a1_4] 26 (0, 0)) (pk_ BK571)) (below_size (pb_ HB)))
         replace HO580 := Aside0.mk (Kd.R_elder' (rk_ HO580) (Kd.R_base ho34) hb)
         replace BK570 := kb_ BK570 hb
         replace BK571 := kb_ BK571 hb
         replace BK595 := kb_ BK595 hb
         replace HB := sb_ HB hb
         clear hb ho34
         refine hK.out _ _ ⟨cy_ BK570 0, cy_ BK570 1, cy_ BK571 0, cy_ BK571 1, cy_ BK571 2, cy_ BK571 3, cy_ BK571 4⟩ (fun hHeld => ?_)
         clear hK K
         refine nn_ 37 ?_
         exact norm_ pa_ (hJ1_3_9 (v583, v587, gb595) _ ⟨hHeld, (rk_ HO576), (by (with_reducible repeat (first | apply Kd.R_alloc | apply Kd.R_drewN | apply Kd.R_drew)); exact Kd.R_mono HO580.out (fun _ hk => ⟨hk.2, hk.1⟩)), (rk_ HO584), (by (with_reducible repeat (first | apply Kd.R_alloc | apply Kd.R_drewN | apply Kd.R_drew)); exact Kd.R_mono HO588.out (fun _ hk => ⟨hk.1.2, hk.2⟩)), (pk_ BK570), (pk_ BK571), (pk_ BK595), GW595.out, GE595.out, NB570_595.out, NB595_570.out, NB571_595.out, NB595_571.out, (pb_ HB)⟩)
        skip
        clear HO576 HO580 BK570 BK571 HB
        rintro ⟨v583, v587⟩ w33 ⟨hHeld, HO576, HO580, HO584, HO588, BK570, BK571, HB⟩
        try dsimp only at hHeld HO576 HO580 HO584 HO588 BK570 BK571 HB
        replace HO576 := Aside0.mk HO576
        replace HO580 := Aside0.mk HO580
        replace HO584 := Aside0.mk HO584
        replace HO588 := Aside0.mk HO588
        replace BK570 := Aside0.mk BK570
        replace BK571 := Aside0.mk BK571
        replace HB := Aside0.mk HB
        obtain ⟨Ao34, co34, eo34⟩ := Kd.R_slice HO584.out
        (first | subst eo34 | (injection eo34 with f1_ f2_ f3_; have f4_ := f1_.symm; have f5_ := f3_.symm; clear f1_ f2_ f3_; subst f4_; subst f5_))
        obtain ⟨Ao35, co35, eo35⟩ := Kd.R_slice HO588.out
        (first | subst eo35 | (injection eo35 with f1_ f2_ f3_; have f4_ := f1_.symm; have f5_ := f3_.symm; clear f1_ f2_ f3_; subst f4_; subst f5_))
        refine nm_ ?_
        refine two_ (i := 4) (j := 9) (Ni := some 38) (Nj := some 7) #[true, true, true, true, true, false, false, false, false, false, false, false, false] #[true, true, true, true, false, false, false, false, false, true, false, false, false] rfl rfl rfl rfl (two_of HT_.out (by kernel_rfl)) (by decide) (by decide) (fun K hK => ?_) (fun K hK => ?_)
        ·
         refine goes_ Tryd.func11 (by kernel_rfl) rfl #[.agg #[.slice Ao34 t582.length co34, .int .i64 t585], .slice Ao35 y586.length co35] (by rfl) rfl rfl (by (try simp only [List.map_toArray, List.map_cons, List.map_nil]); first | done | rfl | (simp only [List.length_drop, List.length_take]; rfl)) ?_
         with_reducible refine (segment_Applied.calls kj4 _ _ t582 t585 _ _ y586 t589 t592 t593 t594 _ ?side1 ?side2 ?side3 ?side4 A23.out).mono ?_
         (case side1 => exact pc_ (Kd.R_reads' HO584.out).2.2)
         (case side2 => exact (Kd.R_reads' HO584.out).2.1)
         (case side3 => exact pc_ (Kd.R_reads' HO588.out).2.2)
         (case side4 => exact (Kd.R_reads' HO588.out).2.1)
         rintro e w36 ⟨v590, rfl, ho0, hb⟩
         refine ⟨_, rfl, ?_⟩
         replace HO580 := Aside0.mk (Kd.R_below (rk_ HO580) hb)
         replace HO588 := Aside0.mk (Kd.R_below (rk_ HO588) hb)
         have HO591 := Aside0.mk (Kd.R_lower (Kd.R_new' (Kd.R_new' ho0 (Kd.R_lt (rk_ HO576))) (Kd.R_lt (rk_ HO584))) (below_size (pb_ HB)))
         replace HO576 := Aside0.mk (Kd.R_elder' (rk_ HO576) (Kd.R_base ho0) hb)
         replace HO584 := Aside0.mk (Kd.R_elder' (rk_ HO584) (Kd.R_base ho0) hb)
         replace BK570 := kb_ BK570 hb
         replace BK571 := kb_ BK571 hb
         replace HB := sb_ HB hb
         (try clear hb)
         (try clear hb2)
         (try clear hk)
         (try clear hi)
         (try clear ho0)
         refine hK.out _ _ ⟨cy_ BK570 0, cy_ BK570 1, cy_ BK571 0, cy_ BK571 1, cy_ BK571 2, cy_ BK571 3, cy_ BK571 4⟩ (fun hHeld => ?_)
         clear hK K
         refine nn_ 38 ?_
         refine pu_ 5 33 HT_ ?_
         refine pu_ 6 39 HT_ ?_
         refine pu_ 7 40 HT_ ?_
         refine pu_ 8 41 HT_ ?_
         exact norm_ pa_ (hJ1_3_4 (.slice Ao34 t582.length co34, .slice Ao35 y586.length co35, v590) _ ⟨hHeld, (rk_ HO576), (rk_ HO580), (rk_ HO584), (rk_ HO588), (by (with_reducible repeat (first | apply Kd.R_alloc | apply Kd.R_drewN | apply Kd.R_drew)); exact Kd.R_mono HO591.out (fun _ hk => ⟨hk.1.2, hk.2⟩)), (pk_ BK570), (pk_ BK571), (pb_ HB)⟩)
        skip
        refine box_step ?hg (N := 7) ?hd (cs := #[.slice none 0 0, .int .i64 0]) (t := 24) ?hr ?_; (case hd => rfl); (case hg => rfl); (case hr => first | (go_simp; done) | (go_simp; rfl))
        intro gb595 hg w34 hbox hb
        replace HO576 := Aside0.mk (Kd.R_below (rk_ HO576) hb)
        replace HO580 := Aside0.mk (Kd.R_below (rk_ HO580) hb)
        replace HO584 := Aside0.mk (Kd.R_below (rk_ HO584) hb)
        replace HO588 := Aside0.mk (Kd.R_below (rk_ HO588) hb)
        have BK595 := Aside0.mk (hbox)
        have GW595 := gw_ hg HB
        have GE595 := gw_ hg HB
        replace HB := sb_ HB hb
        have NB570_595 := nl_ hg BK570
        have NB595_570 := ng_ hg BK570
        replace BK570 := kb_ BK570 hb
        have NB571_595 := nl_ hg BK571
        have NB595_571 := ng_ hg BK571
        replace BK571 := kb_ BK571 hb
        clear hb hbox hg
        refine hK.out _ _ ⟨cy_ BK570 0, cy_ BK570 1, cy_ BK571 0, cy_ BK571 1, cy_ BK571 2, cy_ BK571 3, cy_ BK571 4⟩ (fun hHeld => ?_)
        clear hK K
        refine nn_ 7 ?_
        exact norm_ pa_ (hJ1_3_9 (.slice Ao34 t582.length co34, .slice Ao35 y586.length co35, gb595) _ ⟨hHeld, (rk_ HO576), (rk_ HO580), (rk_ HO584), (rk_ HO588), (pk_ BK570), (pk_ BK571), (pk_ BK595), GW595.out, GE595.out, NB570_595.out, NB595_570.out, NB571_595.out, NB595_571.out, (pb_ HB)⟩)
       skip
       clear HO576 HO580 BK570 BK571 HB
       rintro ⟨v583, v587, gb595⟩ w34 ⟨hHeld, HO576, HO580, HO584, HO588, BK570, BK571, BK595, GW595, GE595, NB570_595, NB595_570, NB571_595, NB595_571, HB⟩
       try dsimp only at hHeld HO576 HO580 HO584 HO588 BK570 BK571 BK595 GW595 GE595 NB570_595 NB595_570 NB571_595 NB595_571 HB
       replace HO576 := Aside0.mk HO576
       replace HO580 := Aside0.mk HO580
       replace HO584 := Aside0.mk HO584
       replace HO588 := Aside0.mk HO588
       replace BK570 := Aside0.mk BK570
       replace BK571 := Aside0.mk BK571
       replace BK595 := Aside0.mk BK595
       replace GW595 := Aside0.mk GW595
       replace GE595 := Aside0.mk GE595
       replace NB570_595 := Aside0.mk NB570_595
       replace NB595_570 := Aside0.mk NB595_570
       replace NB571_595 := Aside0.mk NB571_595
       replace NB595_571 := Aside0.mk NB595_571
       replace HB := Aside0.mk HB
       obtain ⟨Ao35, co35, eo35⟩ := Kd.R_slice HO584.out
       (first | subst eo35 | (injection eo35 with f1_ f2_ f3_; have f4_ := f1_.symm; have f5_ := f3_.symm; clear f1_ f2_ f3_; subst f4_; subst f5_))
       obtain ⟨Ao36, co36, eo36⟩ := Kd.R_slice HO588.out
       (first | subst eo36 | (injection eo36 with f1_ f2_ f3_; have f4_ := f1_.symm; have f5_ := f3_.symm; clear f1_ f2_ f3_; subst f4_; subst f5_))
       refine nm_ ?_
       refine one_ (i := 4) (N := some 38) #[true, true, true, true, true, false, false, false, false, true, false, false, false] rfl rfl (one_of HT_.out (by kernel_rfl)) (by decide) (fun K hK => ?_)
       refine goes_ Tryd.func11 (by kernel_rfl) rfl #[.agg #[.slice Ao35 t582.length co35, .int .i64 t585], .slice Ao36 y586.length co36] (by rfl) rfl rfl (by (try simp only [List.map_toArray, List.map_cons, List.map_nil]); first | done | rfl | (simp only [List.length_drop, List.length_take]; rfl)) ?_
       with_reducible refine (segment_Applied.calls kj4 _ _ t582 t585 _ _ y586 t589 t592 t593 t594 _ ?side1 ?side2 ?side3 ?side4 A23.out).mono ?_
       (case side1 => exact pc_ (Kd.R_reads' HO584.out).2.2)
       (case side2 => exact (Kd.R_reads' HO584.out).2.1)
       (case side3 => exact pc_ (Kd.R_reads' HO588.out).2.2)
       (case side4 => exact (Kd.R_reads' HO588.out).2.1)
       rintro e w37 ⟨v590, rfl, ho0, hb⟩
       refine ⟨_, rfl, ?_⟩
       replace HO580 := Aside0.mk (Kd.R_below (rk_ HO580) hb)
       replace HO588 := Aside0.mk (Kd.R_below (rk_ HO588) hb)
       have HO591 := Aside0.mk (Kd.R_lower (Kd.R_new' (Kd.R_new' ho0 (Kd.R_lt (rk_ HO576))) (Kd.R_lt (rk_ HO584))) (below_size (pb_ HB)))
       replace HO576 := Aside0.mk (Kd.R_elder' (rk_ HO576) (Kd.R_base ho0) hb)
       replace HO584 := Aside0.mk (Kd.R_elder' (rk_ HO584) (Kd.R_base ho0) hb)
       replace BK570 := kb_ BK570 hb
       replace BK571 := kb_ BK571 hb
       replace BK595 := kb_ BK595 hb
       replace HB := sb_ HB hb
       (try clear hb)
       (try clear hb2)
       (try clear hk)
       (try clear hi)
       (try clear ho0)
       refine hK.out _ _ ⟨cy_ BK570 0, cy_ BK570 1, cy_ BK571 0, cy_ BK571 1, cy_ BK571 2, cy_ BK571 3, cy_ BK571 4⟩ (fun hHeld => ?_)
       clear hK K
       refine nn_ 38 ?_
       refine pu_ 5 33 HT_ ?_
       refine pu_ 6 39 HT_ ?_
       refine pu_ 7 40 HT_ ?_
       refine pu_ 8 41 HT_ ?_
       exact norm_ pa_ (hJ1_3_4_9 (.slice Ao35 t582.length co35, .slice Ao36 y586.length co36, v590, gb595) _ ⟨hHeld, (rk_ HO576), (rk_ HO580), (rk_ HO584), (rk_ HO588), (by (with_reducible repeat (first | apply Kd.R_alloc | apply Kd.R_drewN | apply Kd.R_drew)); exact Kd.R_mono HO591.out (fun _ hk => ⟨hk.1.2, hk.2⟩)), (pk_ BK570), (pk_ BK571), (pk_ BK595), GW595.out, GE595.out, NB570_595.out, NB595_570.out, NB571_595.out, NB595_571.out, (pb_ HB)⟩)
      skip
      clear HO576 HO580 BK570 BK571 HB
      rintro ⟨v583, v587, v590⟩ w36 ⟨hHeld, HO576, HO580, HO584, HO588, HO591, BK570, BK571, HB⟩
      try dsimp only at hHeld HO576 HO580 HO584 HO588 HO591 BK570 BK571 HB
      replace HO576 := Aside0.mk HO576
      replace HO580 := Aside0.mk HO580
      replace HO584 := Aside0.mk HO584
      replace HO588 := Aside0.mk HO588
      replace HO591 := Aside0.mk HO591
      replace BK570 := Aside0.mk BK570
      replace BK571 := Aside0.mk BK571
      replace HB := Aside0.mk HB
      refine nm_ ?_
      refine one_ (i := 9) (N := some 7) #[true, true, true, true, true, true, true, true, true, true, false, false, false] rfl rfl (one_of HT_.out (by kernel_rfl)) (by decide) (fun K hK => ?_)
      refine box_step ?hg (N := 7) ?hd (cs := #[.slice none 0 0, .int .i64 0]) (t := 24) ?hr ?_; (case hd => rfl); (case hg => rfl); (case hr => first | (go_simp; done) | (go_simp; rfl))
      intro gb595 hg w37 hbox hb
      replace HO576 := Aside0.mk (Kd.R_below (rk_ HO576) hb)
      replace HO580 := Aside0.mk (Kd.R_below (rk_ HO580) hb)
      replace HO584 := Aside0.mk (Kd.R_below (rk_ HO584) hb)
      replace HO588 := Aside0.mk (Kd.R_below (rk_ HO588) hb)
      replace HO591 := Aside0.mk (Kd.R_below (rk_ HO591) hb)
      have BK595 := Aside0.mk (hbox)
      have GW595 := gw_ hg HB
      have GE595 := gw_ hg HB
      replace HB := sb_ HB hb
      have NB570_595 := nl_ hg BK570
      have NB595_570 := ng_ hg BK570
      replace BK570 := kb_ BK570 hb
      have NB571_595 := nl_ hg BK571
      have NB595_571 := ng_ hg BK571
      replace BK571 := kb_ BK571 hb
      clear hb hbox hg
      refine hK.out _ _ ⟨cy_ BK570 0, cy_ BK570 1, cy_ BK571 0, cy_ BK571 1, cy_ BK571 2, cy_ BK571 3, cy_ BK571 4⟩ (fun hHeld => ?_)
      clear hK K
      refine nn_ 7 ?_
      exact norm_ pa_ (hJ1_3_4_9 (v583, v587, v590, gb595) _ ⟨hHeld, (rk_ HO576), (rk_ HO580), (rk_ HO584), (rk_ HO588), (rk_ HO591), (pk_ BK570), (pk_ BK571), (pk_ BK595), GW595.out, GE595.out, NB570_595.out, NB595_570.out, NB571_595.out, NB595_571.out, (pb_ HB)⟩)
     clear HO576 HO580 BK570 BK571 HB
     rintro ⟨v583, v587, v590, gb595⟩ w37 ⟨hHeld, HO576, HO580, HO584, HO588, HO591, BK570, BK571, BK595, GW595, GE595, NB570_595, NB595_570, NB571_595, NB595_571, HB⟩
     try dsimp only at hHeld HO576 HO580 HO584 HO588 HO591 BK570 BK571 BK595 GW595 GE595 NB570_595 NB595_570 NB571_595 NB595_571 HB
     replace HO576 := Aside0.mk HO576
     replace HO580 := Aside0.mk HO580
     replace HO584 := Aside0.mk HO584
     replace HO588 := Aside0.mk HO588
     replace HO591 := Aside0.mk HO591
     replace BK570 := Aside0.mk BK570
     replace BK571 := Aside0.mk BK571
     replace BK595 := Aside0.mk BK595
     replace GW595 := Aside0.mk GW595
     replace GE595 := Aside0.mk GE595
     replace NB570_595 := Aside0.mk NB570_595
     replace NB595_570 := Aside0.mk NB595_570
     replace NB571_595 := Aside0.mk NB571_595
     replace NB595_571 := Aside0.mk NB595_571
     replace HB := Aside0.mk HB
     obtain ⟨Ao38, co38, eo38⟩ := Kd.R_slice HO591.out
     (first | subst eo38 | (injection eo38 with f1_ f2_ f3_; have f4_ := f1_.symm; have f5_ := f3_.symm; clear f1_ f2_ f3_; subst f4_; subst f5_))
     refine nm_ ?_
     refine one_ (i := 10) (N := none) #[true, true, true, true, true, true, true, true, true, true, true, false, false] rfl rfl (one_of HT_.out (by kernel_rfl)) (by decide) (fun K hK => ?_)
     have hs39 : w37.cell? ⟨gb595, 0, none⟩ = some (.slice none 0 0) := (blk_cell BK595.out 0).trans rfl
     have hfs39 := blk_frozen BK595.out 0
     have hns39_0 := NB570_595.out
     have hns39_1 := NB571_595.out
     have hms39_0 := NB595_570.out
     have hms39_1 := NB595_571.out
     have hs40 : w37.cell? ⟨gb595, 1, none⟩ = some (.int .i64 0) := (blk_cell BK595.out 1).trans rfl
     have hfs40 := blk_frozen BK595.out 1
     have hns40_0 := NB570_595.out
     have hns40_1 := NB571_595.out
     have hms40_0 := NB595_570.out
     have hms40_1 := NB595_571.out
     refine skip_ (w1 := ?_) (by rfl) rfl ?_ ?_
     rotate_left
     ·
      go_simp
      rfl
     refine hK.out _ _ ⟨((cell_far (p := ⟨gb595, _, none⟩) NB570_595.out _).trans (((cell_far (p := ⟨gb595, _, none⟩) NB570_595.out _).trans (hHeld.1)))), ((cell_far (p := ⟨gb595, _, none⟩) NB570_595.out _).trans (((cell_far (p := ⟨gb595, _, none⟩) NB570_595.out _).trans (hHeld.2.1)))), ((cell_far (p := ⟨gb595, _, none⟩) NB571_595.out _).trans (((cell_far (p := ⟨gb595, _, none⟩) NB571_595.out _).trans (hHeld.2.2.1)))), ((cell_far (p := ⟨gb595, _, none⟩) NB571_595.out _).trans (((cell_far (p := ⟨gb595, _, none⟩) NB571_595.out _).trans (hHeld.2.2.2.1)))), ((cell_far (p := ⟨gb595, _, none⟩) NB571_595.out _).trans (((cell_far (p := ⟨gb595, _, none⟩) NB571_595.out _).trans (hHeld.2.2.2.2.1)))), ((cell_far (p := ⟨gb595, _, none⟩) NB571_595.out _).trans (((cell_far (p := ⟨gb595, _, none⟩) NB571_595.out _).trans (hHeld.2.2.2.2.2.1)))), ((cell_far (p := ⟨gb595, _, none⟩) NB571_595.out _).trans (((cell_far (p := ⟨gb595, _, none⟩) NB571_595.out _).trans (hHeld.2.2.2.2.2.2))))⟩ (fun hHeld => ?_)
     clear hK K
     refine pu_ 11 8 HT_ ?_
     refine pu_ 12 9 HT_ ?_
     refine done_ (done_of HT_.out (by kernel_rfl)) ?_
     go_upto_region 9 with (fail)
     go_cut [48] (fun v48 wc => ∃ (kq : Nat) (x48_23 : Bool), v48 = .bool x48_23 ∧ Aside0 (midrangelaw04_SegmentUndone.j1 kq t578 x48_23 l0_0 a0_1 t589 t592 = some r) ∧ Aside0 (kq ≤ kj4) ∧ Aside0 (Kd.R k26 26 wc w.heap.size (fun k_ => k_ ≠ gb571) v579 t578) ∧ Aside0 (Kd.R k46 46 wc w.heap.size (fun _ => True) (.slice Ao38 t589.length co38) t589) ∧ Aside0 (wc.heap[gb570]? = some (.cells #[(.slice A0_0 l0_0.length c0_0), .int .i64 a0_1] 24 (0, 0))) ∧ Aside0 (wc.heap[gb571]? = some (.cells #[.int .i64 a1_0, .int .i64 a1_1, .int .i64 a1_2, .int .i64 a1_3, .string a1_4] 26 (0, 0))) ∧ Aside0 (wc.heap[gb595]? = some (.cells #[(.slice Ao38 t589.length co38), .int .i64 t592] 24 (0, 0))) ∧ Aside0 (Below w.heap.size w wc))
     case first =>
      have H := HC24.out
      clear HC24
      by_cases c41 : t594 = 0
      ·
       rw [if_pos c41] at H
       have c41b0 : (t594 == 0) = true := beq_iff_eq.mpr c41
       have c41b1 : (t594 != 0) = false := bne_eq_false_iff_eq.mpr c41
       clear c41
       (first | rw [c41b0] | (simp only [i64_w, i32_w]; rw [c41b0]) | skip)
       replace H := Option.bind_eq_some_iff.mp H
       obtain ⟨t596, A420, H⟩ := H
       replace H : (midrangelaw04_SegmentUndone.j1 kj4 t578 (!t596) l0_0 a0_1 t589 t592) = some r := H
       have A42 := Aside0.mk A420
       clear A420
       have H' := Aside0.mk H
       clear H
       have hnb43 := NB595_570.out
       have hnc43 := NB570_595.out
       have hnb44 := NB595_571.out
       have hnc44 := NB571_595.out
       have hcz45_0 := cz_ BK595 0 (.slice none 0 0)
       have hcz45_1 := cz_ BK595 1 (.int .i64 0)
       have hfz45_0 := blk_frozen BK595.out 0
       have hfz45_1 := blk_frozen BK595.out 1
       go_wp2_with (first | (go_at_call 6; (with_reducible refine (midrangelaw04_few.calls kj4 _ _ t589 t592 t596 _ ?side1 ?side2 A42.out).mono ?_); (case side1 => refine (Kd.R_reads' (e := 46) (base := w.heap.size) (ok := fun k_ => (some k_ ≠ (.slice Ao27 t574.length co27 : Value).ownBlock ∧ some k_ ≠ (v583 : Value).ownBlock)) (n := t589.length) (c := co38) ?_).2.2; exact (by (with_reducible repeat (first | apply Kd.R_alloc | apply Kd.R_drewN | apply Kd.R_drew)); exact (Kd.R_mono (Kd.R_far (p := ⟨gb595, 1, none⟩) (Kd.R_far (p := ⟨gb595, 0, none⟩) (Kd.R_types HO591.out BK595.out (by decide)) (fun _ hk => hk.2) (.slice Ao38 t589.length co38)) (fun _ hk => hk.2) (.int .i64 t592)) (fun _ h_ => h_.1)))); (case side2 => exact (Kd.R_reads' HO591.out).2.1); rintro e w46 ⟨rfl, hb⟩; replace HO576 := Aside0.mk (Kd.R_below (by (with_reducible repeat (first | apply Kd.R_alloc | apply Kd.R_drewN | apply Kd.R_drew)); exact (Kd.R_mono (Kd.R_far (p := ⟨gb595, 1, none⟩) (Kd.R_far (p := ⟨gb595, 0, none⟩) (Kd.R_types HO576.out BK595.out (by decide)) (fun _ hk => hk.2) (.slice Ao38 t589.length co38)) (fun _ hk => hk.2) (.int .i64 t592)) (fun _ h_ => h_.1))) hb); replace HO580 := Aside0.mk (Kd.R_below (by (with_reducible repeat (first | apply Kd.R_alloc | apply Kd.R_drewN | apply Kd.R_drew)); exact (Kd.R_mono (Kd.R_far (p := ⟨gb595, 1, none⟩) (Kd.R_far (p := ⟨gb595, 0, none⟩) (Kd.R_types HO580.out BK595.out (by decide)) (fun _ hk => hk.2) (.slice Ao38 t589.length co38)) (fun _ hk => hk.2) (.int .i64 t592)) (fun _ h_ => h_.1))) hb); replace HO584 := Aside0.mk (Kd.R_below (by (with_reducible repeat (first | apply Kd.R_alloc | apply Kd.R_drewN | apply Kd.R_drew)); exact (Kd.R_mono (Kd.R_far (p := ⟨gb595, 1, none⟩) (Kd.R_far (p := ⟨gb595, 0, none⟩) (Kd.R_types HO584.out BK595.out (by decide)) (fun _ hk => hk.2) (.slice Ao38 t589.length co38)) (fun _ hk => hk.2) (.int .i64 t592)) (fun _ h_ => h_.1))) hb); replace HO588 := Aside0.mk (Kd.R_below (by (with_reducible repeat (first | apply Kd.R_alloc | apply Kd.R_drewN | apply Kd.R_drew)); exact (Kd.R_mono (Kd.R_far (p := ⟨gb595, 1, none⟩) (Kd.R_far (p := ⟨gb595, 0, none⟩) (Kd.R_types HO588.out BK595.out (by decide)) (fun _ hk => hk.2) (.slice Ao38 t589.length co38)) (fun _ hk => hk.2) (.int .i64 t592)) (fun _ h_ => h_.1))) hb); replace HO591 := Aside0.mk (Kd.R_below (by (with_reducible repeat (first | apply Kd.R_alloc | apply Kd.R_drewN | apply Kd.R_drew)); exact (Kd.R_mono (Kd.R_far (p := ⟨gb595, 1, none⟩) (Kd.R_far (p := ⟨gb595, 0, none⟩) (Kd.R_types HO591.out BK595.out (by decide)) (fun _ hk => hk.2) (.slice Ao38 t589.length co38)) (fun _ hk => hk.2) (.int .i64 t592)) (fun _ h_ => h_.1))) hb); replace BK570 := Aside0.mk (blk_below (g := gb570) (o := .cells #[.slice A0_0 l0_0.length c0_0, .int .i64 a0_1] 24 (0, 0)) (by (with_reducible repeat (first | refine blk_drewN ?_ _ | refine blk_drew ?_ | refine blk_alloc ?_ _)); refine blk_far ?_ NB570_595.out _; (with_reducible repeat (first | refine blk_drewN ?_ _ | refine blk_drew ?_ | refine blk_alloc ?_ _)); refine blk_far ?_ NB570_595.out _; (with_reducible repeat (first | refine blk_drewN ?_ _ | refine blk_drew ?_ | refine blk_alloc ?_ _)); exact BK570.out) hb); replace BK571 := Aside0.mk (blk_below (g := gb571) (o := .cells #[.int .i64 a1_0, .int .i64 a1_1, .int .i64 a1_2, .int .i64 a1_3, .string a1_4] 26 (0, 0)) (by (with_reducible repeat (first | refine blk_drewN ?_ _ | refine blk_drew ?_ | refine blk_alloc ?_ _)); refine blk_far ?_ NB571_595.out _; (with_reducible repeat (first | refine blk_drewN ?_ _ | refine blk_drew ?_ | refine blk_alloc ?_ _)); refine blk_far ?_ NB571_595.out _; (with_reducible repeat (first | refine blk_drewN ?_ _ | refine blk_drew ?_ | refine blk_alloc ?_ _)); exact BK571.out) hb); replace BK595 := Aside0.mk (blk_below (g := gb595) (o := .cells #[.slice Ao38 t589.length co38, .int .i64 t592] 24 (0, 0)) (bq_ BK595) hb); replace HB := sb_ HB hb; (try clear hb); (try clear hb2); (try clear hk); (try clear hi)))
       go_meet
       case rel => exact ⟨_, (!t596), rl_, H', ⟨by have := HJ4.out; first | omega | exact Nat.le_refl _⟩, ⟨by (with_reducible repeat (first | apply Kd.R_alloc | apply Kd.R_drewN | apply Kd.R_drew)); exact Kd.R_mono HO580.out (fun _ hk => hk.2)⟩, ⟨by (with_reducible repeat (first | apply Kd.R_alloc | apply Kd.R_drewN | apply Kd.R_drew)); exact Kd.R_mono HO591.out (fun _ hk => trivial)⟩, ⟨pk_ BK570⟩, ⟨pk_ BK571⟩, ⟨pk_ BK595⟩, ⟨pb_ HB⟩⟩
      rw [if_neg c41] at H
      have c41b0 : (t594 == 0) = false := beq_eq_false_iff_ne.mpr c41
      have c41b1 : (t594 != 0) = true := bne_iff_ne.mpr c41
      (first | rw [c41b0] | (simp only [i64_w, i32_w]; rw [c41b0]) | skip)
      have H' := Aside0.mk H
      clear H
      go_wp2
      go_meet
      case rel => exact ⟨_, (true), rl_, H', ⟨by have := HJ4.out; first | omega | exact Nat.le_refl _⟩, ⟨by (with_reducible repeat (first | apply Kd.R_alloc | apply Kd.R_drewN | apply Kd.R_drew)); exact Kd.R_mono (Kd.R_far (p := ⟨gb595, 1, none⟩) (Kd.R_far (p := ⟨gb595, 0, none⟩) (Kd.R_types HO580.out BK595.out (by decide)) (fun _ hk => hk.2) (.slice Ao38 t589.length co38)) (fun _ hk => hk.2) (.int .i64 t592)) (fun _ hk => hk.1.2)⟩, ⟨by (with_reducible repeat (first | apply Kd.R_alloc | apply Kd.R_drewN | apply Kd.R_drew)); exact Kd.R_mono (Kd.R_far (p := ⟨gb595, 1, none⟩) (Kd.R_far (p := ⟨gb595, 0, none⟩) (Kd.R_types HO591.out BK595.out (by decide)) (fun _ hk => hk.2) (.slice Ao38 t589.length co38)) (fun _ hk => hk.2) (.int .i64 t592)) (fun _ hk => trivial)⟩, ⟨by (with_reducible repeat (first | refine blk_drewN ?_ _ | refine blk_drew ?_ | refine blk_alloc ?_ _)); refine blk_far ?_ NB570_595.out _; (with_reducible repeat (first | refine blk_drewN ?_ _ | refine blk_drew ?_ | refine blk_alloc ?_ _)); refine blk_far ?_ NB570_595.out _; (with_reducible repeat (first | refine blk_drewN ?_ _ | refine blk_drew ?_ | refine blk_alloc ?_ _)); exact BK570.out⟩, ⟨by (with_reducible repeat (first | refine blk_drewN ?_ _ | refine blk_drew ?_ | refine blk_alloc ?_ _)); refine blk_far ?_ NB571_595.out _; (with_reducible repeat (first | refine blk_drewN ?_ _ | refine blk_drew ?_ | refine blk_alloc ?_ _)); refine blk_far ?_ NB571_595.out _; (with_reducible repeat (first | refine blk_drewN ?_ _ | refine blk_drew ?_ | refine blk_alloc ?_ _)); exact BK571.out⟩, ⟨bq_ BK595⟩, ⟨pb_ HB⟩⟩
     case rest =>
      clear HC24
      try clear c1
      try clear p2
      try clear c4
      try clear c5
      try clear c11
      try clear c41
      try clear c41b0
      try clear c41b1
      try clear c43
      try clear c44
      try clear hcz45_0
      try clear hcz45_1
      try clear hfz45_0
      try clear hfz45_1
      obtain ⟨kq, x48_23, rfl, HA, HJ23, HO_5, HO_596000, BK570, BK571, BK595, HB⟩ := hcut
      cases kq with
      | zero => exact absurd HA.out (by simp [midrangelaw04_SegmentUndone.j1])
      | succ kj23 =>
       have H := HA.out
       clear HA
       simp only [midrangelaw04_SegmentUndone.j1] at H
       by_cases c47 : x48_23 = true
       ·
        subst c47
        have H1 : (some false) = some r := by rw [if_pos rfl] at H; exact H
        clear H
        have H := H1
        clear H1
        obtain rfl := Option.some.inj H
        go_wp2
        go_ret
        exact ⟨er_, pb_ HB⟩
       replace c47 := Bool.eq_false_iff.mpr c47
       subst c47
       have H1 : ((midrangeref04_Own.f t589 t592).bind fun bt597 => ((midrangeref04_OwnOps.f t578).bind fun t601 => ((segment_Applied.f kj23 bt597.1 bt597.2 t601).bind fun bt604 => (if bt604.2.2.2 = 0 then (if bt604.2.2.1 = (t578.length : Int) then ((midrangeref04_Same.f kj23 bt604.1 bt604.2.1 l0_0 a0_1).bind fun t611 => (some t611)) else (some false)) else (some false))))) = some r := by rw [if_neg (show ¬ (false = true) by decide)] at H; exact H
       clear H
       have H := H1
       clear H1
       replace H := Option.bind_eq_some_iff.mp H
       obtain ⟨⟨t597, t600⟩, A480, H⟩ := H
       replace H : ((midrangeref04_OwnOps.f t578).bind fun t601 => ((segment_Applied.f kj23 t597 t600 t601).bind fun bt604 => (if bt604.2.2.2 = 0 then (if bt604.2.2.1 = (t578.length : Int) then ((midrangeref04_Same.f kj23 bt604.1 bt604.2.1 l0_0 a0_1).bind fun t611 => (some t611)) else (some false)) else (some false)))) = some r := H
       have A48 := Aside0.mk A480
       clear A480
       replace H := Option.bind_eq_some_iff.mp H
       obtain ⟨t601, A490, H⟩ := H
       replace H : ((segment_Applied.f kj23 t597 t600 t601).bind fun bt604 => (if bt604.2.2.2 = 0 then (if bt604.2.2.1 = (t578.length : Int) then ((midrangeref04_Same.f kj23 bt604.1 bt604.2.1 l0_0 a0_1).bind fun t611 => (some t611)) else (some false)) else (some false))) = some r := H
       have A49 := Aside0.mk A490
       clear A490
       replace H := Option.bind_eq_some_iff.mp H
       obtain ⟨⟨t604, t607, t608, t609⟩, A500, H⟩ := H
       replace H : (if t609 = 0 then (if t608 = (t578.length : Int) then ((midrangeref04_Same.f kj23 t604 t607 l0_0 a0_1).bind fun t611 => (some t611)) else (some false)) else (some false)) = some r := H
       have A50 := Aside0.mk A500
       clear A500
       by_cases c51 : t609 = 0
       ·
        rw [if_pos c51] at H
        have c51b0 : (t609 == 0) = true := beq_iff_eq.mpr c51
        have c51b1 : (t609 != 0) = false := bne_eq_false_iff_eq.mpr c51
        clear c51
        by_cases c52 : t608 = (t578.length : Int)
        ·
         rw [if_pos c52] at H
         have c52b0 : (t608 == (t578.length : Int)) = true := beq_iff_eq.mpr c52
         have c52b1 : (t608 != (t578.length : Int)) = false := bne_eq_false_iff_eq.mpr c52
         clear c52
         replace H := Option.bind_eq_some_iff.mp H
         obtain ⟨t611, A530, H⟩ := H
         replace H : (some t611) = some r := H
         have A53 := Aside0.mk A530
         clear A530
         obtain rfl := Option.some.inj H
         have hnb54 := NB595_570.out
         have hnc54 := NB570_595.out
         have hnb55 := NB595_571.out
         have hnc55 := NB571_595.out
         have hcz56_0 := cz_ BK595 0 (.slice Ao38 t589.length co38)
         have hcz56_1 := cz_ BK595 1 (.int .i64 t592)
         have hfz56_0 := blk_frozen BK595.out 0
         have hfz56_1 := blk_frozen BK595.out 1
         go_wp2_with (first | ((with_reducible refine gate_callee (f := 8) rfl ?_); refine gl_ 51 Tryd.func8 #[.agg #[.slice Ao38 t589.length co38, .int .i64 t592]] ?_; (with_reducible refine (midrangeref04_Own.calls _ _ t589 t592 t597 t600 _ ?side1 ?side2 A48.out).mono ?_); (case side1 => exact pc_ (Kd.R_reads' HO_596000.out).2.2); (case side2 => exact (Kd.R_reads' HO_596000.out).2.1); rintro e w57 ⟨v598, rfl, ho0, hb⟩; refine ⟨_, rfl, ?_⟩; replace HO_5 := Aside0.mk (Kd.R_below (rk_ HO_5) hb); have HO599 := Aside0.mk (Kd.R_lower (Kd.R_new' ho0 (Kd.R_lt (rk_ HO_596000))) (below_size (pb_ HB))); replace HO_596000 := Aside0.mk (Kd.R_elder' (rk_ HO_596000) (Kd.R_base ho0) hb); replace BK570 := kb_ BK570 hb; replace BK571 := kb_ BK571 hb; replace BK595 := kb_ BK595 hb; replace HB := sb_ HB hb; (try clear hb); (try clear hb2); (try clear hk); (try clear hi); (try clear ho0); obtain ⟨Ao58, co58, eo58⟩ := Kd.R_slice HO_5.out; subst eo58) | ((with_reducible refine gate_callee (f := 12) rfl ?_); refine gl_ 53 Tryd.func12 #[.slice Ao58 t578.length co58] ?_; (with_reducible refine (midrangeref04_OwnOps.calls _ _ t578 t601 _ ?side1 ?side2 A49.out).mono ?_); (case side1 => exact pc_ (Kd.R_reads' HO_5.out).2.2); (case side2 => exact (Kd.R_reads' HO_5.out).2.1); rintro e w59 ⟨v602, rfl, ho0, hb⟩; refine ⟨_, rfl, ?_⟩; replace HO_596000 := Aside0.mk (Kd.R_below (rk_ HO_596000) hb); replace HO599 := Aside0.mk (Kd.R_below (rk_ HO599) hb); have HO603 := Aside0.mk (Kd.R_lower (Kd.R_newB (Kd.R_new' ho0 (Kd.R_lt (rk_ HO_5))) (g := gb571) (o := .cells #[.int .i64 a1_0, .int .i64 a1_1, .int .i64 a1_2, .int .i64 a1_3, .string a1_4] 26 (0, 0)) (pk_ BK571)) (below_size (pb_ HB))); replace HO_5 := Aside0.mk (Kd.R_elder' (rk_ HO_5) (Kd.R_base ho0) hb); replace BK570 := kb_ BK570 hb; replace BK571 := kb_ BK571 hb; replace BK595 := kb_ BK595 hb; replace HB := sb_ HB hb; (try clear hb); (try clear hb2); (try clear hk); (try clear hi); (try clear ho0); obtain ⟨Ao60, co60, eo60⟩ := Kd.R_slice HO599.out; subst eo60; obtain ⟨Ao61, co61, eo61⟩ := Kd.R_slice HO603.out; subst eo61) | ((with_reducible refine gate_callee (f := 11) rfl ?_); refine gl_ 54 Tryd.func11 #[.agg #[.slice Ao60 t597.length co60, .int .i64 t600], .slice Ao61 t601.length co61] ?_; (with_reducible refine (segment_Applied.calls kj23 _ _ t597 t600 _ _ t601 t604 t607 t608 t609 _ ?side1 ?side2 ?side3 ?side4 A50.out).mono ?_); (case side1 => exact pc_ (Kd.R_reads' HO599.out).2.2); (case side2 => exact (Kd.R_reads' HO599.out).2.1); (case side3 => exact pc_ (Kd.R_reads' HO603.out).2.2); (case side4 => exact (Kd.R_reads' HO603.out).2.1); rintro e w62 ⟨v605, rfl, ho0, hb⟩; refine ⟨_, rfl, ?_⟩; replace HO_5 := Aside0.mk (Kd.R_below (rk_ HO_5) hb); replace HO603 := Aside0.mk (Kd.R_below (rk_ HO603) hb); have HO606 := Aside0.mk (Kd.R_lower (Kd.R_new' (Kd.R_new' ho0 (Kd.R_lt (rk_ HO_596000))) (Kd.R_lt (rk_ HO599))) (below_size (pb_ HB))); replace HO_596000 := Aside0.mk (Kd.R_elder' (rk_ HO_596000) (Kd.R_base ho0) hb); replace HO599 := Aside0.mk (Kd.R_elder' (rk_ HO599) (Kd.R_base ho0) hb); replace BK570 := kb_ BK570 hb; replace BK571 := kb_ BK571 hb; replace BK595 := kb_ BK595 hb; replace HB := sb_ HB hb; (try clear hb); (try clear hb2); (try clear hk); (try clear hi); (try clear ho0)) | ((with_reducible refine gate_dst (N := 10) rfl ?_); (try (refine gate_guard (by rfl) ?_; dsimp only)); refine bx_ 10 #[.slice none 0 0, .int .i64 0] 24 ?_; intro gb610 hg w63 hbox hb; replace HO_5 := Aside0.mk (Kd.R_below (rk_ HO_5) hb); replace HO_596000 := Aside0.mk (Kd.R_below (rk_ HO_596000) hb); replace HO599 := Aside0.mk (Kd.R_below (rk_ HO599) hb); replace HO603 := Aside0.mk (Kd.R_below (rk_ HO603) hb); replace HO606 := Aside0.mk (Kd.R_below (rk_ HO606) hb); have BK610 := Aside0.mk (hbox); have GW610 := gw_ hg HB; have GE610 := gw_ hg HB; replace HB := sb_ HB hb; have NB570_610 := nl_ hg BK570; have NB610_570 := ng_ hg BK570; replace BK570 := kb_ BK570 hb; have NB571_610 := nl_ hg BK571; have NB610_571 := ng_ hg BK571; replace BK571 := kb_ BK571 hb; have NB595_610 := nl_ hg BK595; have NB610_595 := ng_ hg BK595; replace BK595 := kb_ BK595 hb; clear hb hbox hg; obtain ⟨Ao64, co64, eo64⟩ := Kd.R_slice HO606.out; subst eo64; have hnb65 := NB610_570.out; have hnc65 := NB570_610.out; have hnb66 := NB610_571.out; have hnc66 := NB571_610.out; have hnb67 := NB610_595.out; have hnc67 := NB595_610.out; have hcz68_0 := cz_ BK610 0 (.slice none 0 0); have hcz68_1 := cz_ BK610 1 (.int .i64 0); have hfz68_0 := blk_frozen BK610.out 0; have hfz68_1 := blk_frozen BK610.out 1; have hnb69 := NB570_571.out; have hnc69 := NB571_570.out; have hcz70_0 := cz_ BK570 0 (.slice A0_0 l0_0.length c0_0); have hcz70_1 := cz_ BK570 1 (.int .i64 a0_1); have hfz70_0 := blk_frozen BK570.out 0; have hfz70_1 := blk_frozen BK570.out 1) | (go_at_call 13; (with_reducible refine (midrangeref04_Same.calls kj23 _ _ t604 t607 _ _ l0_0 a0_1 t611 _ ?side1 ?side2 ?side3 ?side4 A53.out).mono ?_); (case side1 => refine (Kd.R_reads' (e := 46) (base := w.heap.size) (ok := fun k_ => ((True ∧ some k_ ≠ (.slice Ao38 t589.length co38 : Value).ownBlock) ∧ some k_ ≠ (.slice Ao60 t597.length co60 : Value).ownBlock)) (n := t604.length) (c := co64) ?_).2.2; exact (by (with_reducible repeat (first | apply Kd.R_alloc | apply Kd.R_drewN | apply Kd.R_drew)); exact (Kd.R_mono (Kd.R_far (p := ⟨gb610, 1, none⟩) (Kd.R_far (p := ⟨gb610, 0, none⟩) (Kd.R_types HO606.out BK610.out (by decide)) (fun _ hk => hk.2) (.slice Ao64 t604.length co64)) (fun _ hk => hk.2) (.int .i64 t607)) (fun _ h_ => h_.1)))); (case side2 => exact (Kd.R_reads' HO606.out).2.1); (case side3 => exact Kd.C_below HR0_0.out (pb_ HB)); (case side4 => exact HC0_0.out); rintro e w71 ⟨rfl, hb⟩; replace HO_5 := Aside0.mk (Kd.R_below (by (with_reducible repeat (first | apply Kd.R_alloc | apply Kd.R_drewN | apply Kd.R_drew)); exact (Kd.R_mono (Kd.R_far (p := ⟨gb610, 1, none⟩) (Kd.R_far (p := ⟨gb610, 0, none⟩) (Kd.R_types HO_5.out BK610.out (by decide)) (fun _ hk => hk.2) (.slice Ao64 t604.length co64)) (fun _ hk => hk.2) (.int .i64 t607)) (fun _ h_ => h_.1))) hb); replace HO_596000 := Aside0.mk (Kd.R_below (by (with_reducible repeat (first | apply Kd.R_alloc | apply Kd.R_drewN | apply Kd.R_drew)); exact (Kd.R_mono (Kd.R_far (p := ⟨gb610, 1, none⟩) (Kd.R_far (p := ⟨gb610, 0, none⟩) (Kd.R_types HO_596000.out BK610.out (by decide)) (fun _ hk => hk.2) (.slice Ao64 t604.length co64)) (fun _ hk => hk.2) (.int .i64 t607)) (fun _ h_ => h_.1))) hb); replace HO599 := Aside0.mk (Kd.R_below (by (with_reducible repeat (first | apply Kd.R_alloc | apply Kd.R_drewN | apply Kd.R_drew)); exact (Kd.R_mono (Kd.R_far (p := ⟨gb610, 1, none⟩) (Kd.R_far (p := ⟨gb610, 0, none⟩) (Kd.R_types HO599.out BK610.out (by decide)) (fun _ hk => hk.2) (.slice Ao64 t604.length co64)) (fun _ hk => hk.2) (.int .i64 t607)) (fun _ h_ => h_.1))) hb); replace HO603 := Aside0.mk (Kd.R_below (by (with_reducible repeat (first | apply Kd.R_alloc | apply Kd.R_drewN | apply Kd.R_drew)); exact (Kd.R_mono (Kd.R_far (p := ⟨gb610, 1, none⟩) (Kd.R_far (p := ⟨gb610, 0, none⟩) (Kd.R_types HO603.out BK610.out (by decide)) (fun _ hk => hk.2) (.slice Ao64 t604.length co64)) (fun _ hk => hk.2) (.int .i64 t607)) (fun _ h_ => h_.1))) hb); replace HO606 := Aside0.mk (Kd.R_below (by (with_reducible repeat (first | apply Kd.R_alloc | apply Kd.R_drewN | apply Kd.R_drew)); exact (Kd.R_mono (Kd.R_far (p := ⟨gb610, 1, none⟩) (Kd.R_far (p := ⟨gb610, 0, none⟩) (Kd.R_types HO606.out BK610.out (by decide)) (fun _ hk => hk.2) (.slice Ao64 t604.length co64)) (fun _ hk => hk.2) (.int .i64 t607)) (fun _ h_ => h_.1))) hb); replace BK570 := Aside0.mk (blk_below (g := gb570) (o := .cells #[.slice A0_0 l0_0.length c0_0, .int .i64 a0_1] 24 (0, 0)) (by (with_reducible repeat (first | refine blk_drewN ?_ _ | refine blk_drew ?_ | refine blk_alloc ?_ _)); refine blk_far ?_ NB570_610.out _; (with_reducible repeat (first | refine blk_drewN ?_ _ | refine blk_drew ?_ | refine blk_alloc ?_ _)); refine blk_far ?_ NB570_610.out _; (with_reducible repeat (first | refine blk_drewN ?_ _ | refine blk_drew ?_ | refine blk_alloc ?_ _)); exact BK570.out) hb); replace BK571 := Aside0.mk (blk_below (g := gb571) (o := .cells #[.int .i64 a1_0, .int .i64 a1_1, .int .i64 a1_2, .int .i64 a1_3, .string a1_4] 26 (0, 0)) (by (with_reducible repeat (first | refine blk_drewN ?_ _ | refine blk_drew ?_ | refine blk_alloc ?_ _)); refine blk_far ?_ NB571_610.out _; (with_reducible repeat (first | refine blk_drewN ?_ _ | refine blk_drew ?_ | refine blk_alloc ?_ _)); refine blk_far ?_ NB571_610.out _; (with_reducible repeat (first | refine blk_drewN ?_ _ | refine blk_drew ?_ | refine blk_alloc ?_ _)); exact BK571.out) hb); replace BK595 := Aside0.mk (blk_below (g := gb595) (o := .cells #[.slice Ao38 t589.length co38, .int .i64 t592] 24 (0, 0)) (by (with_reducible repeat (first | refine blk_drewN ?_ _ | refine blk_drew ?_ | refine blk_alloc ?_ _)); refine blk_far ?_ NB595_610.out _; (with_reducible repeat (first | refine blk_drewN ?_ _ | refine blk_drew ?_ | refine blk_alloc ?_ _)); refine blk_far ?_ NB595_610.out _; (with_reducible repeat (first | refine blk_drewN ?_ _ | refine blk_drew ?_ | refine blk_alloc ?_ _)); exact BK595.out) hb); replace BK610 := Aside0.mk (blk_below (g := gb610) (o := .cells #[.slice Ao64 t604.length co64, .int .i64 t607] 24 (0, 0)) (bq_ BK610) hb); replace HB := sb_ HB hb; (try clear hb); (try clear hb2); (try clear hk); (try clear hi)))
         go_ret
         exact ⟨er_, pb_ HB⟩
        rw [if_neg c52] at H
        have c52b0 : (t608 == (t578.length : Int)) = false := beq_eq_false_iff_ne.mpr c52
        have c52b1 : (t608 != (t578.length : Int)) = true := bne_iff_ne.mpr c52
        obtain rfl := Option.some.inj H
        have hnb72 := NB595_570.out
        have hnc72 := NB570_595.out
        have hnb73 := NB595_571.out
        have hnc73 := NB571_595.out
        have hcz74_0 := cz_ BK595 0 (.slice Ao38 t589.length co38)
        have hcz74_1 := cz_ BK595 1 (.int .i64 t592)
        have hfz74_0 := blk_frozen BK595.out 0
        have hfz74_1 := blk_frozen BK595.out 1
        go_wp2_with (first | ((with_reducible refine gate_callee (f := 8) rfl ?_); refine gl_ 51 Tryd.func8 #[.agg #[.slice Ao38 t589.length co38, .int .i64 t592]] ?_; (with_reducible refine (midrangeref04_Own.calls _ _ t589 t592 t597 t600 _ ?side1 ?side2 A48.out).mono ?_); (case side1 => exact pc_ (Kd.R_reads' HO_596000.out).2.2); (case side2 => exact (Kd.R_reads' HO_596000.out).2.1); rintro e w75 ⟨v598, rfl, ho0, hb⟩; refine ⟨_, rfl, ?_⟩; replace HO_5 := Aside0.mk (Kd.R_below (rk_ HO_5) hb); have HO599 := Aside0.mk (Kd.R_lower (Kd.R_new' ho0 (Kd.R_lt (rk_ HO_596000))) (below_size (pb_ HB))); replace HO_596000 := Aside0.mk (Kd.R_elder' (rk_ HO_596000) (Kd.R_base ho0) hb); replace BK570 := kb_ BK570 hb; replace BK571 := kb_ BK571 hb; replace BK595 := kb_ BK595 hb; replace HB := sb_ HB hb; (try clear hb); (try clear hb2); (try clear hk); (try clear hi); (try clear ho0); obtain ⟨Ao76, co76, eo76⟩ := Kd.R_slice HO_5.out; subst eo76) | ((with_reducible refine gate_callee (f := 12) rfl ?_); refine gl_ 53 Tryd.func12 #[.slice Ao76 t578.length co76] ?_; (with_reducible refine (midrangeref04_OwnOps.calls _ _ t578 t601 _ ?side1 ?side2 A49.out).mono ?_); (case side1 => exact pc_ (Kd.R_reads' HO_5.out).2.2); (case side2 => exact (Kd.R_reads' HO_5.out).2.1); rintro e w77 ⟨v602, rfl, ho0, hb⟩; refine ⟨_, rfl, ?_⟩; replace HO_596000 := Aside0.mk (Kd.R_below (rk_ HO_596000) hb); replace HO599 := Aside0.mk (Kd.R_below (rk_ HO599) hb); have HO603 := Aside0.mk (Kd.R_lower (Kd.R_newB (Kd.R_new' ho0 (Kd.R_lt (rk_ HO_5))) (g := gb571) (o := .cells #[.int .i64 a1_0, .int .i64 a1_1, .int .i64 a1_2, .int .i64 a1_3, .string a1_4] 26 (0, 0)) (pk_ BK571)) (below_size (pb_ HB))); replace HO_5 := Aside0.mk (Kd.R_elder' (rk_ HO_5) (Kd.R_base ho0) hb); replace BK570 := kb_ BK570 hb; replace BK571 := kb_ BK571 hb; replace BK595 := kb_ BK595 hb; replace HB := sb_ HB hb; (try clear hb); (try clear hb2); (try clear hk); (try clear hi); (try clear ho0); obtain ⟨Ao78, co78, eo78⟩ := Kd.R_slice HO599.out; subst eo78; obtain ⟨Ao79, co79, eo79⟩ := Kd.R_slice HO603.out; subst eo79) | ((with_reducible refine gate_callee (f := 11) rfl ?_); refine gl_ 54 Tryd.func11 #[.agg #[.slice Ao78 t597.length co78, .int .i64 t600], .slice Ao79 t601.length co79] ?_; (with_reducible refine (segment_Applied.calls kj23 _ _ t597 t600 _ _ t601 t604 t607 t608 t609 _ ?side1 ?side2 ?side3 ?side4 A50.out).mono ?_); (case side1 => exact pc_ (Kd.R_reads' HO599.out).2.2); (case side2 => exact (Kd.R_reads' HO599.out).2.1); (case side3 => exact pc_ (Kd.R_reads' HO603.out).2.2); (case side4 => exact (Kd.R_reads' HO603.out).2.1); rintro e w80 ⟨v605, rfl, ho0, hb⟩; refine ⟨_, rfl, ?_⟩; replace HO_5 := Aside0.mk (Kd.R_below (rk_ HO_5) hb); replace HO603 := Aside0.mk (Kd.R_below (rk_ HO603) hb); have HO606 := Aside0.mk (Kd.R_lower (Kd.R_new' (Kd.R_new' ho0 (Kd.R_lt (rk_ HO_596000))) (Kd.R_lt (rk_ HO599))) (below_size (pb_ HB))); replace HO_596000 := Aside0.mk (Kd.R_elder' (rk_ HO_596000) (Kd.R_base ho0) hb); replace HO599 := Aside0.mk (Kd.R_elder' (rk_ HO599) (Kd.R_base ho0) hb); replace BK570 := kb_ BK570 hb; replace BK571 := kb_ BK571 hb; replace BK595 := kb_ BK595 hb; replace HB := sb_ HB hb; (try clear hb); (try clear hb2); (try clear hk); (try clear hi); (try clear ho0)) | ((with_reducible refine gate_dst (N := 10) rfl ?_); (try (refine gate_guard (by rfl) ?_; dsimp only)); refine bx_ 10 #[.slice none 0 0, .int .i64 0] 24 ?_; intro gb610 hg w81 hbox hb; replace HO_5 := Aside0.mk (Kd.R_below (rk_ HO_5) hb); replace HO_596000 := Aside0.mk (Kd.R_below (rk_ HO_596000) hb); replace HO599 := Aside0.mk (Kd.R_below (rk_ HO599) hb); replace HO603 := Aside0.mk (Kd.R_below (rk_ HO603) hb); replace HO606 := Aside0.mk (Kd.R_below (rk_ HO606) hb); have BK610 := Aside0.mk (hbox); have GW610 := gw_ hg HB; have GE610 := gw_ hg HB; replace HB := sb_ HB hb; have NB570_610 := nl_ hg BK570; have NB610_570 := ng_ hg BK570; replace BK570 := kb_ BK570 hb; have NB571_610 := nl_ hg BK571; have NB610_571 := ng_ hg BK571; replace BK571 := kb_ BK571 hb; have NB595_610 := nl_ hg BK595; have NB610_595 := ng_ hg BK595; replace BK595 := kb_ BK595 hb; clear hb hbox hg; obtain ⟨Ao82, co82, eo82⟩ := Kd.R_slice HO606.out; subst eo82; have hnb83 := NB610_570.out; have hnc83 := NB570_610.out; have hnb84 := NB610_571.out; have hnc84 := NB571_610.out; have hnb85 := NB610_595.out; have hnc85 := NB595_610.out; have hcz86_0 := cz_ BK610 0 (.slice none 0 0); have hcz86_1 := cz_ BK610 1 (.int .i64 0); have hfz86_0 := blk_frozen BK610.out 0; have hfz86_1 := blk_frozen BK610.out 1))
        go_ret
        exact ⟨er_, pb_ HB⟩
       rw [if_neg c51] at H
       have c51b0 : (t609 == 0) = false := beq_eq_false_iff_ne.mpr c51
       have c51b1 : (t609 != 0) = true := bne_iff_ne.mpr c51
       obtain rfl := Option.some.inj H
       have hnb87 := NB595_570.out
       have hnc87 := NB570_595.out
       have hnb88 := NB595_571.out
       have hnc88 := NB571_595.out
       have hcz89_0 := cz_ BK595 0 (.slice Ao38 t589.length co38)
       have hcz89_1 := cz_ BK595 1 (.int .i64 t592)
       have hfz89_0 := blk_frozen BK595.out 0
       have hfz89_1 := blk_frozen BK595.out 1
       go_wp2_with (first | ((with_reducible refine gate_callee (f := 8) rfl ?_); refine gl_ 51 Tryd.func8 #[.agg #[.slice Ao38 t589.length co38, .int .i64 t592]] ?_; (with_reducible refine (midrangeref04_Own.calls _ _ t589 t592 t597 t600 _ ?side1 ?side2 A48.out).mono ?_); (case side1 => exact pc_ (Kd.R_reads' HO_596000.out).2.2); (case side2 => exact (Kd.R_reads' HO_596000.out).2.1); rintro e w90 ⟨v598, rfl, ho0, hb⟩; refine ⟨_, rfl, ?_⟩; replace HO_5 := Aside0.mk (Kd.R_below (rk_ HO_5) hb); have HO599 := Aside0.mk (Kd.R_lower (Kd.R_new' ho0 (Kd.R_lt (rk_ HO_596000))) (below_size (pb_ HB))); replace HO_596000 := Aside0.mk (Kd.R_elder' (rk_ HO_596000) (Kd.R_base ho0) hb); replace BK570 := kb_ BK570 hb; replace BK571 := kb_ BK571 hb; replace BK595 := kb_ BK595 hb; replace HB := sb_ HB hb; (try clear hb); (try clear hb2); (try clear hk); (try clear hi); (try clear ho0); obtain ⟨Ao91, co91, eo91⟩ := Kd.R_slice HO_5.out; subst eo91) | ((with_reducible refine gate_callee (f := 12) rfl ?_); refine gl_ 53 Tryd.func12 #[.slice Ao91 t578.length co91] ?_; (with_reducible refine (midrangeref04_OwnOps.calls _ _ t578 t601 _ ?side1 ?side2 A49.out).mono ?_); (case side1 => exact pc_ (Kd.R_reads' HO_5.out).2.2); (case side2 => exact (Kd.R_reads' HO_5.out).2.1); rintro e w92 ⟨v602, rfl, ho0, hb⟩; refine ⟨_, rfl, ?_⟩; replace HO_596000 := Aside0.mk (Kd.R_below (rk_ HO_596000) hb); replace HO599 := Aside0.mk (Kd.R_below (rk_ HO599) hb); have HO603 := Aside0.mk (Kd.R_lower (Kd.R_newB (Kd.R_new' ho0 (Kd.R_lt (rk_ HO_5))) (g := gb571) (o := .cells #[.int .i64 a1_0, .int .i64 a1_1, .int .i64 a1_2, .int .i64 a1_3, .string a1_4] 26 (0, 0)) (pk_ BK571)) (below_size (pb_ HB))); replace HO_5 := Aside0.mk (Kd.R_elder' (rk_ HO_5) (Kd.R_base ho0) hb); replace BK570 := kb_ BK570 hb; replace BK571 := kb_ BK571 hb; replace BK595 := kb_ BK595 hb; replace HB := sb_ HB hb; (try clear hb); (try clear hb2); (try clear hk); (try clear hi); (try clear ho0); obtain ⟨Ao93, co93, eo93⟩ := Kd.R_slice HO599.out; subst eo93; obtain ⟨Ao94, co94, eo94⟩ := Kd.R_slice HO603.out; subst eo94) | ((with_reducible refine gate_callee (f := 11) rfl ?_); refine gl_ 54 Tryd.func11 #[.agg #[.slice Ao93 t597.length co93, .int .i64 t600], .slice Ao94 t601.length co94] ?_; (with_reducible refine (segment_Applied.calls kj23 _ _ t597 t600 _ _ t601 t604 t607 t608 t609 _ ?side1 ?side2 ?side3 ?side4 A50.out).mono ?_); (case side1 => exact pc_ (Kd.R_reads' HO599.out).2.2); (case side2 => exact (Kd.R_reads' HO599.out).2.1); (case side3 => exact pc_ (Kd.R_reads' HO603.out).2.2); (case side4 => exact (Kd.R_reads' HO603.out).2.1); rintro e w95 ⟨v605, rfl, ho0, hb⟩; refine ⟨_, rfl, ?_⟩; replace HO_5 := Aside0.mk (Kd.R_below (rk_ HO_5) hb); replace HO603 := Aside0.mk (Kd.R_below (rk_ HO603) hb); have HO606 := Aside0.mk (Kd.R_lower (Kd.R_new' (Kd.R_new' ho0 (Kd.R_lt (rk_ HO_596000))) (Kd.R_lt (rk_ HO599))) (below_size (pb_ HB))); replace HO_596000 := Aside0.mk (Kd.R_elder' (rk_ HO_596000) (Kd.R_base ho0) hb); replace HO599 := Aside0.mk (Kd.R_elder' (rk_ HO599) (Kd.R_base ho0) hb); replace BK570 := kb_ BK570 hb; replace BK571 := kb_ BK571 hb; replace BK595 := kb_ BK595 hb; replace HB := sb_ HB hb; (try clear hb); (try clear hb2); (try clear hk); (try clear hi); (try clear ho0)) | ((with_reducible refine gate_dst (N := 10) rfl ?_); (try (refine gate_guard (by rfl) ?_; dsimp only)); refine bx_ 10 #[.slice none 0 0, .int .i64 0] 24 ?_; intro gb610 hg w96 hbox hb; replace HO_5 := Aside0.mk (Kd.R_below (rk_ HO_5) hb); replace HO_596000 := Aside0.mk (Kd.R_below (rk_ HO_596000) hb); replace HO599 := Aside0.mk (Kd.R_below (rk_ HO599) hb); replace HO603 := Aside0.mk (Kd.R_below (rk_ HO603) hb); replace HO606 := Aside0.mk (Kd.R_below (rk_ HO606) hb); have BK610 := Aside0.mk (hbox); have GW610 := gw_ hg HB; have GE610 := gw_ hg HB; replace HB := sb_ HB hb; have NB570_610 := nl_ hg BK570; have NB610_570 := ng_ hg BK570; replace BK570 := kb_ BK570 hb; have NB571_610 := nl_ hg BK571; have NB610_571 := ng_ hg BK571; replace BK571 := kb_ BK571 hb; have NB595_610 := nl_ hg BK595; have NB610_595 := ng_ hg BK595; replace BK595 := kb_ BK595 hb; clear hb hbox hg; obtain ⟨Ao97, co97, eo97⟩ := Kd.R_slice HO606.out; subst eo97; have hnb98 := NB610_570.out; have hnc98 := NB570_610.out; have hnb99 := NB610_571.out; have hnc99 := NB571_610.out; have hnb100 := NB610_595.out; have hnc100 := NB595_610.out; have hcz101_0 := cz_ BK610 0 (.slice none 0 0); have hcz101_1 := cz_ BK610 1 (.int .i64 0); have hfz101_0 := blk_frozen BK610.out 0; have hfz101_1 := blk_frozen BK610.out 1))
       go_ret
       exact ⟨er_, pb_ HB⟩
    rw [if_neg c21] at H
    have c21b0 : (t581 == 0) = false := beq_eq_false_iff_ne.mpr c21
    have c21b1 : (t581 != 0) = true := bne_iff_ne.mpr c21
    obtain rfl := Option.some.inj H
    try go_wp2
    replace BK570 := Aside0.mk (blk_drew BK570.out)
    replace BK571 := Aside0.mk (blk_drew BK571.out)
    replace HB := Aside0.mk (below_drew1 HB.out)
    refine start_ (n := 9) (S := fun w' => w'.cell? ⟨gb570, 0, none⟩ = some (.slice A0_0 l0_0.length c0_0) ∧ w'.cell? ⟨gb570, 1, none⟩ = some (.int .i64 a0_1) ∧ w'.cell? ⟨gb571, 0, none⟩ = some (.int .i64 a1_0) ∧ w'.cell? ⟨gb571, 1, none⟩ = some (.int .i64 a1_1) ∧ w'.cell? ⟨gb571, 2, none⟩ = some (.int .i64 a1_2) ∧ w'.cell? ⟨gb571, 3, none⟩ = some (.int .i64 a1_3) ∧ w'.cell? ⟨gb571, 4, none⟩ = some (.string a1_4)) (ds := []) #[false, false, false, false, false, false, false, false, false] (by kernel_rfl) rfl rfl ⟨cy_ BK570 0, cy_ BK570 1, cy_ BK571 0, cy_ BK571 1, cy_ BK571 2, cy_ BK571 3, cy_ BK571 4⟩ (fun hHeld => ?_); refine with_tabW midrangelaw04_SegmentUndone.tab5 midrangelaw04_SegmentUndone.bits5 (fun HT_ HW_ => ?_)
    generalize wc.drew = w102 at BK570 BK571 HB hHeld ⊢
    refine tk_ 0 25 HT_ HW_ hHeld rfl (Or.inl ⟨by rfl, by rintro w' ⟨s0, s1, s2, s3, s4, s5, s6⟩; go_simp; with_reducible rfl⟩) ?_
    refine tk_ 2 27 HT_ HW_ hHeld rfl (Or.inl ⟨by rfl, by rintro w' ⟨s0, s1, s2, s3, s4, s5, s6⟩; go_simp; with_reducible rfl⟩) ?_
    refine one_ (i := 1) (N := some 26) #[true, true, true, false, false, false, false, false, false] rfl rfl (one_of HT_.out (by kernel_rfl)) (by decide) (fun K hK => ?_)
    refine goes_ Tryd.func8 (by kernel_rfl) rfl #[.agg #[.slice A0_0 l0_0.length c0_0, .int .i64 a0_1]] (by rfl) rfl rfl (by (try simp only [List.map_toArray, List.map_cons, List.map_nil]); first | done | rfl | (simp only [List.length_drop, List.length_take]; rfl)) ?_
    with_reducible refine (midrangeref04_Own.calls _ _ l0_0 a0_1 t574 t577 _ ?side1 ?side2 A19.out).mono ?_
    (case side1 => exact pc_ (Kd.C_below HR0_0.out HB.out))
    (case side2 => exact HC0_0.out)
    rintro e w103 ⟨v575, rfl, ho0, hb⟩
    refine ⟨_, rfl, ?_⟩
    have HO576 := Aside0.mk (Kd.R_lower ho0 (below_size (pb_ HB)))
    replace BK570 := kb_ BK570 hb
    replace BK571 := kb_ BK571 hb
    replace HB := sb_ HB hb
    (try clear hb)
    (try clear hb2)
    (try clear hk)
    (try clear hi)
    (try clear ho0)
    obtain ⟨Ao104, co104, eo104⟩ := Kd.R_slice HO576.out
    (first | subst eo104 | (injection eo104 with f1_ f2_ f3_; have f4_ := f1_.symm; have f5_ := f3_.symm; clear f1_ f2_ f3_; subst f4_; subst f5_))
    refine hK.out _ _ ⟨cy_ BK570 0, cy_ BK570 1, cy_ BK571 0, cy_ BK571 1, cy_ BK571 2, cy_ BK571 3, cy_ BK571 4⟩ (fun hHeld => ?_)
    clear hK K
    refine nn_ 26 ?_
    refine one_ (i := 3) (N := some 28) #[true, true, true, true, false, false, false, false, false] rfl rfl (one_of HT_.out (by kernel_rfl)) (by decide) (fun K hK => ?_)
    refine goes_ Tryd.func7 (by kernel_rfl) rfl #[.agg #[.slice Ao104 t574.length co104, .int .i64 t577], .agg #[.int .i64 a1_0, .int .i64 a1_1, .int .i64 a1_2, .int .i64 a1_3, .string a1_4]] (by rfl) rfl rfl (by (try simp only [List.map_toArray, List.map_cons, List.map_nil]); first | done | rfl | (simp only [List.length_drop, List.length_take]; rfl)) ?_
    with_reducible refine (segment_Undo.calls kj4 _ _ t574 t577 a1_0 a1_1 a1_2 a1_3 a1_4 t578 t581 _ ?side1 ?side2 A20.out).mono ?_
    (case side1 => exact pc_ (Kd.R_reads' HO576.out).2.2)
    (case side2 => exact (Kd.R_reads' HO576.out).2.1)
    rintro e w105 ⟨v579, rfl, ho0, hb⟩
    refine ⟨_, rfl, ?_⟩
    replace HO576 := Aside0.mk (Kd.R_below (rk_ HO576) hb)
    have HO580 := Aside0.mk (Kd.R_lower (Kd.R_newB ho0 (g := gb571) (o := .cells #[.int .i64 a1_0, .int .i64 a1_1, .int .i64 a1_2, .int .i64 a1_3, .string a1_4] 26 (0, 0)) (pk_ BK571)) (below_size (pb_ HB)))
    replace BK570 := kb_ BK570 hb
    replace BK571 := kb_ BK571 hb
    replace HB := sb_ HB hb
    (try clear hb)
    (try clear hb2)
    (try clear hk)
    (try clear hi)
    (try clear ho0)
    refine hK.out _ _ ⟨cy_ BK570 0, cy_ BK570 1, cy_ BK571 0, cy_ BK571 1, cy_ BK571 2, cy_ BK571 3, cy_ BK571 4⟩ (fun hHeld => ?_)
    clear hK K
    refine nn_ 28 ?_
    refine pu_ 4 24 HT_ ?_
    refine pu_ 5 29 HT_ ?_
    refine pu_ 6 30 HT_ ?_
    refine pu_ 7 5 HT_ ?_
    refine pu_ 8 6 HT_ ?_
    refine done_ (done_of HT_.out (by kernel_rfl)) ?_
    try go_wp2
    go_ret
    exact ⟨er_, pb_ HB⟩
 replace c4 := Bool.eq_false_iff.mpr c4
 subst c4
 have H1 : (some false) = some r := by rw [if_neg (show ¬ (false = true) by decide)] at H; exact H
 clear H
 have H := H1
 clear H1
 obtain rfl := Option.some.inj H
 go_enter Tryd.func4, Tryd.ntmps4
 go_wp2_with (first | ((with_reducible refine gate_dst (N := 2) rfl ?_); (try (refine gate_guard (by rfl) ?_; dsimp only)); refine bx_ 2 #[.slice A0_0 l0_0.length c0_0, .int .i64 a0_1] 24 ?_; intro gb570 hg w106 hbox hb; have BK570 := Aside0.mk (hbox); have GW570 := gw_ hg HB; have GE570 := gw_ hg HB; replace HB := sb_ HB hb; clear hb hbox hg) | ((with_reducible refine gate_dst (N := 3) rfl ?_); (try (refine gate_guard (by rfl) ?_; dsimp only)); refine bx_ 3 #[.int .i64 a1_0, .int .i64 a1_1, .int .i64 a1_2, .int .i64 a1_3, .string a1_4] 26 ?_; intro gb571 hg w107 hbox hb; have BK571 := Aside0.mk (hbox); have GW571 := gw_ hg HB; have GE571 := gw_ hg HB; replace HB := sb_ HB hb; have NB570_571 := nl_ hg BK570; have NB571_570 := ng_ hg BK570; replace BK570 := kb_ BK570 hb; clear hb hbox hg) | ((with_reducible refine gate_callee (f := 5) rfl ?_); refine gl_ 13 Tryd.func5 #[] ?_; (with_reducible refine (midrangelaw04_awake.calls k  false _ A3.out).mono ?_); rintro e w108 ⟨rfl, hb⟩; refine ⟨_, rfl, ?_⟩; replace BK570 := kb_ BK570 hb; replace BK571 := kb_ BK571 hb; replace HB := sb_ HB hb; (try clear hb); (try clear hb2); (try clear hk); (try clear hi)))
 go_ret
 exact ⟨er_, pb_ HB⟩

/-- THE ONE PURE STATEMENT of midrangelaw04_SegmentUndone. -/
def midrangelaw04_SegmentUndone.Pure : Prop := ∀ (l0_0 : List (S46)) (a0_1 : Int) (a1_0 : Int) (a1_1 : Int) (a1_2 : Int) (a1_3 : Int) (a1_4 : ByteArray), (l0_0.length ≤ 9223372036854775807 ∧ ∀ y0 ∈ l0_0, ok46 y0) → (Lit.int .i64 a0_1).wf = true → (Lit.int .i64 a1_0).wf = true → (Lit.int .i64 a1_1).wf = true → (Lit.int .i64 a1_2).wf = true → (Lit.int .i64 a1_3).wf = true → a1_4.size ≤ 9223372036854775807 → ∃ k, midrangelaw04_SegmentUndone.f k l0_0 a0_1 a1_0 a1_1 a1_2 a1_3 a1_4 = some true
end Go.Proofs.YtoabahlaicgmjaaDoor.X
end
