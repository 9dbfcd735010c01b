-- Texts of this claim joined by merge.py, a program of its author; what this claim does not reach is left out.
import Derived.Test.YtoabahlaicgmjaaMSegmentNumbers6
section
namespace Go.Proofs.Ytoabahlaicgmjaa.X
open Go.Proofs.Ytoabahlaicgmjaa.XW Go.Proofs.Ytoabahlaicgmjaa.XS
open Go.RowKit Go.Proofs.YtoabahlaicgmjaaW.PrintWords Go.Proofs.YtoabahlaicgmjaaW.PrintLast Go.Proofs.YtoabahlaicgmjaaW.PrintMore
attribute [local go_sem] max2_int min2_int max_two min_two max_three min_three max_four min_four   -- for this text's walks alone
set_option linter.unusedVariables false
set_option linter.unusedSimpArgs false
mutual
def midrangelaw04_SegmentNumbers.j0 : Nat → List (S66) → Bool → List (S56) → Int → Option (Bool)
  | 0, _, _, _, _ => none
  | k + 1, x1, x33, x701000, x701001 => if x33 = true then (some true) else (midrangelaw04_SegmentNumbers.l0 k x1 ([] : List Int) 0 x701000 x701001)
def midrangelaw04_SegmentNumbers.l0 : Nat → List (S66) → List Int → Int → List (S56) → Int → Option (Bool)
  | 0, _, _, _, _, _ => none
  | k + 1, x1, x6, x7, x701000, x701001 => if x7 < (x701000.length : Int) then (if 0 ≤ x7 then (if x6.length < 17592186044416 then (midrangelaw04_SegmentNumbers.l0 k x1 (x6 ++ [(rd_T56 x701000 x7).f0]) (wrap64 (x7 + 1)) x701000 x701001) else (none)) else (none)) else ((midrangeref04_Own.f x701000 x701001).bind fun bt709 => (midrangelaw04_SegmentNumbers.l1 k x1 ([] : List Int) x6 0 bt709.1 bt709.2))
def midrangelaw04_SegmentNumbers.j5 : Nat → List Int → List (S56) → Int → Option (Bool)
  | 0, _, _, _ => none
  | k + 1, x5, x714000, x714001 => midrangelaw04_SegmentNumbers.l2 k x5 0 x714000 x714001
def midrangelaw04_SegmentNumbers.l2 : Nat → List Int → Int → List (S56) → Int → Option (Bool)
  | 0, _, _, _, _ => none
  | k + 1, x5, x16, x714000, x714001 => if x16 < (x5.length : Int) then ((midrangeref04_Own.f x714000 x714001).bind fun bt757 => (if 0 ≤ x16 then ((segment_ReadAt.f k bt757.1 bt757.2 (rd x5 x16) 0 0).bind fun bt762 => (if bt762.2 = 24 then (midrangelaw04_SegmentNumbers.l2 k x5 (wrap64 (x16 + 1)) x714000 x714001) else (some false))) else (none))) else (some true)
def midrangelaw04_SegmentNumbers.l1 : Nat → List (S66) → List Int → List Int → Int → List (S56) → Int → Option (Bool)
  | 0, _, _, _, _, _, _ => none
  | k + 1, x1, x5, x6, x9, x714000, x714001 => if x9 < (x1.length : Int) then ((midrangeref04_Own.f x714000 x714001).bind fun bt714 => (if 0 ≤ x9 then ((segment_Applied.f k bt714.1 bt714.2 (([(⟨(rd_T66 x1 x9).f0, (rd_T66 x1 x9).f1, (rd_T66 x1 x9).f2, (rd_T66 x1 x9).f3, (rd_T66 x1 x9).f4⟩ : S66)] : List (S66)))).bind fun bt722 => (if bt722.2.2.2 = 0 then (if bt722.2.2.1 = 1 then ((midrangelaw04_few.f k bt722.1 bt722.2.1).bind fun t729 => (midrangelaw04_SegmentNumbers.j3 k x1 x5 x6 x9 (!t729) x714000 x714001 bt722.1 bt722.2.1)) else (midrangelaw04_SegmentNumbers.j3 k x1 x5 x6 x9 true x714000 x714001 bt722.1 bt722.2.1)) else (midrangelaw04_SegmentNumbers.j5 k x5 x714000 x714001))) else (none))) else (midrangelaw04_SegmentNumbers.j5 k x5 x714000 x714001)
def midrangelaw04_SegmentNumbers.j3 : Nat → List (S66) → List Int → List Int → Int → Bool → List (S56) → Int → List (S56) → Int → Option (Bool)
  | 0, _, _, _, _, _, _, _, _, _ => none
  | k + 1, x1, x5, x6, x9, x78, x714000, x714001, x729000, x729001 => if x78 = true then (some false) else (if 0 ≤ x9 then (if x9 < (x1.length : Int) then (if ((rd_T66 x1 x9).f0) = 0 then ((midrangeref04_Own.f x714000 x714001).bind fun bt731 => ((segment_Created.f k bt731.1 bt731.2 ((rd_T66 x1 x9).f3)).bind fun bt736 => (if bt736.2.2.2 = 0 then ((midrangebase_IndexOf.f k x6 bt736.2.2.1).bind fun t743 => (midrangelaw04_SegmentNumbers.j4 k x1 x5 x6 x9 bt736.2.2.1 (t743 != (-1)) x729000 x729001)) else (midrangelaw04_SegmentNumbers.j4 k x1 x5 x6 x9 bt736.2.2.1 true x729000 x729001)))) else (if ((rd_T66 x1 x9).f0) = 3 then (if x5.length < 17592186044416 then (midrangelaw04_SegmentNumbers.l1 k x1 (x5 ++ [(rd_T66 x1 x9).f1]) x6 (wrap64 (x9 + 1)) x729000 x729001) else (none)) else (midrangelaw04_SegmentNumbers.l1 k x1 x5 x6 (wrap64 (x9 + 1)) x729000 x729001))) else (none)) else (none))
def midrangelaw04_SegmentNumbers.j4 : Nat → List (S66) → List Int → List Int → Int → Int → Bool → List (S56) → Int → Option (Bool)
  | 0, _, _, _, _, _, _, _, _ => none
  | k + 1, x1, x5, x6, x9, x14, x104, x729000, x729001 => if x104 = true then (some false) else (if x6.length < 17592186044416 then ((some (x6 ++ [x14] : List Int)).bind fun y744 => (if 0 ≤ x9 then (if x9 < (x1.length : Int) then (if ((rd_T66 x1 x9).f0) = 3 then (if x5.length < 17592186044416 then (midrangelaw04_SegmentNumbers.l1 k x1 (x5 ++ [(rd_T66 x1 x9).f1]) y744 (wrap64 (x9 + 1)) x729000 x729001) else (none)) else (midrangelaw04_SegmentNumbers.l1 k x1 x5 y744 (wrap64 (x9 + 1)) x729000 x729001)) else (none)) else (none))) else (none))
end
def midrangelaw04_SegmentNumbers.f (k : Nat) (l0_0 : List (S56)) (a0_1 : Int) (l1 : List (S66)) : Option (Bool) := (midrangelaw04_awake.f k).bind fun t701 => (if t701 = true then ((midrangelaw04_few.f k l0_0 a0_1).bind fun t702 => (if t702 = true then ((midrangelaw04_light.f k l1).bind fun t703 => (if t703 = true then ((midrangeref04_Err.f k l0_0 a0_1).bind fun t704 => (midrangelaw04_SegmentNumbers.j0 k l1 (t704 != 0) l0_0 a0_1)) else (midrangelaw04_SegmentNumbers.j0 k l1 true l0_0 a0_1))) else (midrangelaw04_SegmentNumbers.j0 k l1 true l0_0 a0_1))) else (some false))
def midrangelaw04_SegmentNumbers.T14 : Bool × List (List Nat × List Nat) := (true, [([], []), ([0], [0]), ([], []), ([], []), ([2, 3], [2, 3]), ([4], [4]), ([5], [5]), ([1, 6, 1], [1, 6]), ([7], [7]), ([8], [8]), ([8], [8]), ([8], [8]), ([], []), ([12, 9, 7, 0, 1, 2, 3, 4, 5, 6, 7, 8, 9, 12], [9, 12]), ([10, 13, 0, 1, 2, 3, 4, 5, 6, 7, 8, 9, 10, 12, 13], [10]), ([11, 14, 0, 1, 2, 3, 4, 5, 6, 7, 8, 9, 10, 11, 12, 13, 14], [11])])
def midrangelaw04_SegmentNumbers.B14 : List Nat := [0, 1, 0, 0, 12, 28, 60, 127, 255, 511, 511, 511, 0, 5119, 14335, 32767]
theorem midrangelaw04_SegmentNumbers.tab14 : rtab .any (opsOf Try.f9 14) = midrangelaw04_SegmentNumbers.T14 := by kernel_rfl
theorem midrangelaw04_SegmentNumbers.bits14 : waitsOk midrangelaw04_SegmentNumbers.T14.2 midrangelaw04_SegmentNumbers.B14 = true := by kernel_rfl
def midrangelaw04_SegmentNumbers.T19 : Bool × List (List Nat × List Nat) := (true, [([], []), ([0], [0]), ([], []), ([], []), ([2, 3], [2, 3]), ([4], [4]), ([5], [5]), ([1, 6, 1], [1, 6]), ([7], [7]), ([8], [8]), ([8], [8]), ([8], [8]), ([], []), ([12, 9, 7, 0, 1, 2, 3, 4, 5, 6, 7, 8, 9, 12], [9, 12]), ([10, 13, 0, 1, 2, 3, 4, 5, 6, 7, 8, 9, 10, 12, 13], [10]), ([11, 14, 0, 1, 2, 3, 4, 5, 6, 7, 8, 9, 10, 11, 12, 13, 14], [11])])
def midrangelaw04_SegmentNumbers.B19 : List Nat := [0, 1, 0, 0, 12, 28, 60, 127, 255, 511, 511, 511, 0, 5119, 14335, 32767]
theorem midrangelaw04_SegmentNumbers.tab19 : rtab .any (opsOf Try.f9 19) = midrangelaw04_SegmentNumbers.T19 := by kernel_rfl
theorem midrangelaw04_SegmentNumbers.bits19 : waitsOk midrangelaw04_SegmentNumbers.T19.2 midrangelaw04_SegmentNumbers.B19 = true := by kernel_rfl
def midrangelaw04_SegmentNumbers.T29 : Bool × List (List Nat × List Nat) := (true, [([], []), ([0], [0]), ([], []), ([], []), ([2, 3], [2, 3]), ([4], [4]), ([5], [5]), ([1, 6, 1], [1, 6]), ([7], [7]), ([8], [8]), ([8], [8]), ([9, 7, 0, 1, 2, 3, 4, 5, 6, 7, 8, 9], [9]), ([10, 11, 0, 1, 2, 3, 4, 5, 6, 7, 8, 9, 10, 11], [10])])
def midrangelaw04_SegmentNumbers.B29 : List Nat := [0, 1, 0, 0, 12, 28, 60, 127, 255, 511, 511, 1023, 4095]
theorem midrangelaw04_SegmentNumbers.tab29 : rtab .any (opsOf Try.f9 29) = midrangelaw04_SegmentNumbers.T29 := by kernel_rfl
theorem midrangelaw04_SegmentNumbers.bits29 : waitsOk midrangelaw04_SegmentNumbers.T29.2 midrangelaw04_SegmentNumbers.B29 = true := by kernel_rfl
set_option maxHeartbeats 8000000 in
set_option maxRecDepth 100000 in
theorem midrangelaw04_SegmentNumbers.calls (k : Nat) (A0_0 : Option Addr) (c0_0 : Nat) (l0_0 : List (S56)) (a0_1 : Int) (A1 : Option Addr) (c1 : Nat) (l1 : List (S66)) (r : Bool) (w : World) (hr0_0 : Kd.C k56 w A0_0 l0_0.length l0_0) (hc0_0 : l0_0.length ≤ c0_0) (hr1 : Kd.C k66 w A1 l1.length l1) (hc1 : l1.length ≤ c1) (h : midrangelaw04_SegmentNumbers.f k l0_0 a0_1 l1 = some r) :
  Calls Try.prog 9 #[.agg #[.slice A0_0 l0_0.length c0_0, .int .i64 a0_1], .slice A1 l1.length c1] w fun e w' => e = .returned (.bool r) ∧ Below w.heap.size w w' := by
 have hu24 := Try.underlying24
 have hu66 := Try.underlying66
 have hu46 := Try.underlying46
 have HR0_0 := Aside0.mk hr0_0
 have HC0_0 := Aside0.mk hc0_0
 clear hr0_0 hc0_0
 have HR1 := Aside0.mk hr1
 have HC1 := Aside0.mk hc1
 clear hr1 hc1
 have HB := Aside0.mk (Below.refl w.heap.size w)
 have H : ((midrangelaw04_awake.f k).bind fun t701 => (if t701 = true then ((midrangelaw04_few.f k l0_0 a0_1).bind fun t702 => (if t702 = true then ((midrangelaw04_light.f k l1).bind fun t703 => (if t703 = true then ((midrangeref04_Err.f k l0_0 a0_1).bind fun t704 => (midrangelaw04_SegmentNumbers.j0 k l1 (t704 != 0) l0_0 a0_1)) else (midrangelaw04_SegmentNumbers.j0 k l1 true l0_0 a0_1))) else (midrangelaw04_SegmentNumbers.j0 k l1 true l0_0 a0_1))) else (some false))) = some r := h
 clear h
 replace H := Option.bind_eq_some_iff.mp H
 obtain ⟨t701, A30, H⟩ := H
 replace H : (if t701 = true then ((midrangelaw04_few.f k l0_0 a0_1).bind fun t702 => (if t702 = true then ((midrangelaw04_light.f k l1).bind fun t703 => (if t703 = true then ((midrangeref04_Err.f k l0_0 a0_1).bind fun t704 => (midrangelaw04_SegmentNumbers.j0 k l1 (t704 != 0) l0_0 a0_1)) else (midrangelaw04_SegmentNumbers.j0 k l1 true l0_0 a0_1))) else (midrangelaw04_SegmentNumbers.j0 k l1 true l0_0 a0_1))) else (some false)) = some r := H
 have A3 := Aside0.mk A30
 clear A30
 by_cases c4 : t701 = true
 ·
  subst c4
  have H1 : ((midrangelaw04_few.f k l0_0 a0_1).bind fun t702 => (if t702 = true then ((midrangelaw04_light.f k l1).bind fun t703 => (if t703 = true then ((midrangeref04_Err.f k l0_0 a0_1).bind fun t704 => (midrangelaw04_SegmentNumbers.j0 k l1 (t704 != 0) l0_0 a0_1)) else (midrangelaw04_SegmentNumbers.j0 k l1 true l0_0 a0_1))) else (midrangelaw04_SegmentNumbers.j0 k l1 true l0_0 a0_1))) = some r := by rw [if_pos rfl] at H; exact H
  clear H
  have H := H1
  clear H1
  have HC5 := Aside0.mk H
  clear H
  go_enter Try.func9, Try.ntmps9
  go_upto_region 3 with (first | ((with_reducible refine gate_dst (N := 2) rfl ?_); refine bx_ 2 #[.slice A0_0 l0_0.length c0_0, .int .i64 a0_1] 24 ?_; intro gb700 hg w6 hbox hb; have BK700 := Aside0.mk (hbox); have GW700 := gw_ hg HB; have GE700 := gw_ hg HB; replace HB := sb_ HB hb; clear hb hbox hg) | ((with_reducible refine gate_callee (f := 10) rfl ?_); refine gl_ 19 Try.func10 #[] ?_; (with_reducible refine (midrangelaw04_awake.calls k  true _ A3.out).mono ?_); rintro e w7 ⟨rfl, hb⟩; refine ⟨_, rfl, ?_⟩; replace BK700 := kb_ BK700 hb; replace HB := sb_ HB hb; (try clear hb); (try clear hb2); (try clear hk); (try clear hi)))
  (try simp only [Act.put, List.setIfInBounds_toArray, List.set_cons_zero, List.set_cons_succ])
  go_cut [33] (fun v33 wc => ∃ (kq : Nat) (x33_4 : Bool), v33 = .bool x33_4 ∧ Aside0 (midrangelaw04_SegmentNumbers.j0 kq l1 x33_4 l0_0 a0_1 = some r) ∧ Aside0 (kq ≤ k) ∧ Aside0 (wc.heap[gb700]? = some (.cells #[(.slice A0_0 l0_0.length c0_0), .int .i64 a0_1] 24 (0, 0))) ∧ Aside0 (Below w.heap.size w wc))
  case first =>
   have H := HC5.out
   clear HC5
   replace H := Option.bind_eq_some_iff.mp H
   obtain ⟨t702, A80, H⟩ := H
   replace H : (if t702 = true then ((midrangelaw04_light.f k l1).bind fun t703 => (if t703 = true then ((midrangeref04_Err.f k l0_0 a0_1).bind fun t704 => (midrangelaw04_SegmentNumbers.j0 k l1 (t704 != 0) l0_0 a0_1)) else (midrangelaw04_SegmentNumbers.j0 k l1 true l0_0 a0_1))) else (midrangelaw04_SegmentNumbers.j0 k l1 true l0_0 a0_1)) = some r := H
   have A8 := Aside0.mk A80
   clear A80
   by_cases c9 : t702 = true
   ·
    subst c9
    have H1 : ((midrangelaw04_light.f k l1).bind fun t703 => (if t703 = true then ((midrangeref04_Err.f k l0_0 a0_1).bind fun t704 => (midrangelaw04_SegmentNumbers.j0 k l1 (t704 != 0) l0_0 a0_1)) else (midrangelaw04_SegmentNumbers.j0 k l1 true l0_0 a0_1))) = some r := by rw [if_pos rfl] at H; exact H
    clear H
    have H := H1
    clear H1
    replace H := Option.bind_eq_some_iff.mp H
    obtain ⟨t703, A100, H⟩ := H
    replace H : (if t703 = true then ((midrangeref04_Err.f k l0_0 a0_1).bind fun t704 => (midrangelaw04_SegmentNumbers.j0 k l1 (t704 != 0) l0_0 a0_1)) else (midrangelaw04_SegmentNumbers.j0 k l1 true l0_0 a0_1)) = some r := H
    have A10 := Aside0.mk A100
    clear A100
    by_cases c11 : t703 = true
    ·
     subst c11
     have H1 : ((midrangeref04_Err.f k l0_0 a0_1).bind fun t704 => (midrangelaw04_SegmentNumbers.j0 k l1 (t704 != 0) l0_0 a0_1)) = some r := by rw [if_pos rfl] at H; exact H
     clear H
     have H := H1
     clear H1
     replace H := Option.bind_eq_some_iff.mp H
     obtain ⟨t704, A120, H⟩ := H
     replace H : (midrangelaw04_SegmentNumbers.j0 k l1 (t704 != 0) l0_0 a0_1) = some r := H
     have A12 := Aside0.mk A120
     clear A120
     have H' := Aside0.mk H
     clear H
     have hcz13_0 := cz_ BK700 0 (.slice A0_0 l0_0.length c0_0)
     have hcz13_1 := cz_ BK700 1 (.int .i64 a0_1)
     have hfz13_0 := blk_frozen BK700.out 0
     have hfz13_1 := blk_frozen BK700.out 1
     go_wp2_with (first | ((with_reducible refine gate_callee (f := 11) rfl ?_); refine gl_ 22 Try.func11 #[.agg #[.slice A0_0 l0_0.length c0_0, .int .i64 a0_1]] ?_; (with_reducible refine (midrangelaw04_few.calls k _ _ l0_0 a0_1 true _ ?side1 ?side2 A8.out).mono ?_); (case side1 => exact pc_ (Kd.C_below HR0_0.out HB.out)); (case side2 => exact HC0_0.out); rintro e w14 ⟨rfl, hb⟩; refine ⟨_, rfl, ?_⟩; replace BK700 := kb_ BK700 hb; replace HB := sb_ HB hb; (try clear hb); (try clear hb2); (try clear hk); (try clear hi)) | (go_at_call 31; (with_reducible refine (midrangelaw04_light.calls k _ _ l1 true _ ?side1 ?side2 A10.out).mono ?_); (case side1 => exact pc_ (Kd.C_below HR1.out HB.out)); (case side2 => exact HC1.out); rintro e w' ⟨rfl, ⟨nd, rfl⟩⟩; have hcz15_0 := cz_ BK700 0 (.slice A0_0 l0_0.length c0_0); have hcz15_1 := cz_ BK700 1 (.int .i64 a0_1); have hfz15_0 := blk_frozen BK700.out 0; have hfz15_1 := blk_frozen BK700.out 1) | (go_at_call 35; (with_reducible refine (midrangeref04_Err.calls k _ _ l0_0 a0_1 t704 _ ?side1 ?side2 A12.out).mono ?_); (case side1 => exact pc_ (Kd.C_below HR0_0.out (pb_ HB))); (case side2 => exact HC0_0.out); rintro e w16 ⟨rfl, hb⟩; replace BK700 := kb_ BK700 hb; replace HB := sb_ HB hb; (try clear hb); (try clear hb2); (try clear hk); (try clear hi)))
     go_meet
     case rel => exact ⟨_, ((t704 != 0)), rl_, H', ⟨by first | omega | exact Nat.le_refl _⟩, ⟨pk_ BK700⟩, ⟨pb_ HB⟩⟩
    replace c11 := Bool.eq_false_iff.mpr c11
    subst c11
    have H1 : (midrangelaw04_SegmentNumbers.j0 k l1 true l0_0 a0_1) = some r := by rw [if_neg (show ¬ (false = true) by decide)] at H; exact H
    clear H
    have H := H1
    clear H1
    have H' := Aside0.mk H
    clear H
    have hcz17_0 := cz_ BK700 0 (.slice A0_0 l0_0.length c0_0)
    have hcz17_1 := cz_ BK700 1 (.int .i64 a0_1)
    have hfz17_0 := blk_frozen BK700.out 0
    have hfz17_1 := blk_frozen BK700.out 1
    go_wp2_with (first | ((with_reducible refine gate_callee (f := 11) rfl ?_); refine gl_ 22 Try.func11 #[.agg #[.slice A0_0 l0_0.length c0_0, .int .i64 a0_1]] ?_; (with_reducible refine (midrangelaw04_few.calls k _ _ l0_0 a0_1 true _ ?side1 ?side2 A8.out).mono ?_); (case side1 => exact pc_ (Kd.C_below HR0_0.out HB.out)); (case side2 => exact HC0_0.out); rintro e w18 ⟨rfl, hb⟩; refine ⟨_, rfl, ?_⟩; replace BK700 := kb_ BK700 hb; replace HB := sb_ HB hb; (try clear hb); (try clear hb2); (try clear hk); (try clear hi)) | (go_at_call 31; (with_reducible refine (midrangelaw04_light.calls k _ _ l1 false _ ?side1 ?side2 A10.out).mono ?_); (case side1 => exact pc_ (Kd.C_below HR1.out HB.out)); (case side2 => exact HC1.out); rintro e w' ⟨rfl, ⟨nd, rfl⟩⟩))
    go_meet
    case rel => exact ⟨_, (true), rl_, H', ⟨by first | omega | exact Nat.le_refl _⟩, ⟨pk_ BK700⟩, ⟨pb_ HB⟩⟩
   replace c9 := Bool.eq_false_iff.mpr c9
   subst c9
   have H1 : (midrangelaw04_SegmentNumbers.j0 k l1 true l0_0 a0_1) = some r := by rw [if_neg (show ¬ (false = true) by decide)] at H; exact H
   clear H
   have H := H1
   clear H1
   have H' := Aside0.mk H
   clear H
   have hcz19_0 := cz_ BK700 0 (.slice A0_0 l0_0.length c0_0)
   have hcz19_1 := cz_ BK700 1 (.int .i64 a0_1)
   have hfz19_0 := blk_frozen BK700.out 0
   have hfz19_1 := blk_frozen BK700.out 1
   go_wp2_with (first | ((with_reducible refine gate_callee (f := 11) rfl ?_); refine gl_ 22 Try.func11 #[.agg #[.slice A0_0 l0_0.length c0_0, .int .i64 a0_1]] ?_; (with_reducible refine (midrangelaw04_few.calls k _ _ l0_0 a0_1 false _ ?side1 ?side2 A8.out).mono ?_); (case side1 => exact pc_ (Kd.C_below HR0_0.out HB.out)); (case side2 => exact HC0_0.out); rintro e w20 ⟨rfl, hb⟩; refine ⟨_, rfl, ?_⟩; replace BK700 := kb_ BK700 hb; replace HB := sb_ HB hb; (try clear hb); (try clear hb2); (try clear hk); (try clear hi)))
   go_meet
   case rel => exact ⟨_, (true), rl_, H', ⟨by first | omega | exact Nat.le_refl _⟩, ⟨pk_ BK700⟩, ⟨pb_ HB⟩⟩
  case rest =>
   clear HC5
   try clear c1
   try clear p2
   try clear c4
   try clear c9
   try clear c10
   try clear c11
   try clear hcz13_0
   try clear hcz13_1
   try clear hcz15_0
   try clear hcz15_1
   try clear hcz17_0
   try clear hcz17_1
   try clear hcz19_0
   try clear hcz19_1
   try clear hfz13_0
   try clear hfz13_1
   try clear hfz15_0
   try clear hfz15_1
   try clear hfz17_0
   try clear hfz17_1
   try clear hfz19_0
   try clear hfz19_1
   obtain ⟨kq, x33_4, rfl, HA, HJ4, BK700, HB⟩ := hcut
   cases kq with
   | zero => exact absurd HA.out (by simp [midrangelaw04_SegmentNumbers.j0])
   | succ kj4 =>
    have H := HA.out
    clear HA
    simp only [midrangelaw04_SegmentNumbers.j0] at H
    by_cases c21 : x33_4 = true
    ·
     subst c21
     have H1 : (some true) = some r := by rw [if_pos rfl] at H; exact H
     clear H
     have H := H1
     clear H1
     obtain rfl := Option.some.inj H
     go_wp2
     go_ret
     exact ⟨er_, pb_ HB⟩
    replace c21 := Bool.eq_false_iff.mpr c21
    subst c21
    have H1 : (midrangelaw04_SegmentNumbers.l0 kj4 l1 ([] : List Int) 0 l0_0 a0_1) = some r := by rw [if_neg (show ¬ (false = true) by decide)] at H; exact H
    clear H
    have H := H1
    clear H1
    have H' := Aside0.mk H
    clear H
    go_wp2
    go_loopg [6, 7] kj4 (fun kq v6 v7 w' => ∃ (x6_2 : List Int) (x7_2 : Int), v7 = .int .i64 x7_2 ∧ Aside0 (midrangelaw04_SegmentNumbers.l0 kq l1 x6_2 x7_2 l0_0 a0_1 = some r) ∧ Aside0 (kq ≤ kj4) ∧ Aside0 (Kd.R (Kd.int .i64) 3 w' w.heap.size (fun _ => True) v6 x6_2) ∧ Aside0 (w'.heap[gb700]? = some (.cells #[(.slice A0_0 l0_0.length c0_0), .int .i64 a0_1] 24 (0, 0))) ∧ Aside0 (Below w.heap.size w w'))
    case atStart => exact ⟨(([] : List Int)), (0), rl_, H', ⟨Nat.le_refl _⟩, ⟨by first | exact Kd.R_nil _ _ _ _ _ | exact Kd.N_nil _ _ _ _ _ | exact Kd.V_nil _ _ _ _ _ | exact Kd.Q_nil _ _ _ _ _ | exact Kd.S_nil _ _ _ _ _⟩, ⟨pk_ BK700⟩, ⟨pb_ HB⟩⟩
    case round =>
     clear H'
     try clear c1
     try clear c2
     try clear p2
     try clear c4
     try clear c9
     try clear c10
     try clear c11
     try clear c21
     try clear hcz13_0
     try clear hcz13_1
     try clear hcz15_0
     try clear hcz15_1
     try clear hcz17_0
     try clear hcz17_1
     try clear hcz19_0
     try clear hcz19_1
     try clear hfz13_0
     try clear hfz13_1
     try clear hfz15_0
     try clear hfz15_1
     try clear hfz17_0
     try clear hfz17_1
     try clear hfz19_0
     try clear hfz19_1
     try clear p2
     obtain ⟨x6_2, x7_2, rfl, HA, HK2, HO_6, BK700, HB⟩ := hrel
     cases gk with
     | zero => exact absurd HA.out (by simp [midrangelaw04_SegmentNumbers.l0])
     | succ k2 =>
      have H := HA.out
      clear HA
      simp only [midrangelaw04_SegmentNumbers.l0] at H
      by_cases c22 : x7_2 < (l0_0.length : Int)
      ·
       rw [if_pos c22] at H
       have c22b0 : decide (x7_2 < (l0_0.length : Int)) = true := decide_eq_true c22
       clear c22
       by_cases c23 : 0 ≤ x7_2
       ·
        rw [if_pos c23] at H
        have c23b0 : decide (0 ≤ x7_2) = true := decide_eq_true c23
        clear c23
        by_cases c24 : x6_2.length < 17592186044416
        ·
         rw [if_pos c24] at H
         have LMc24 := Aside0.mk c24
         clear c24
         obtain ⟨y706, hy706⟩ : ∃ y_ : List Int, y_ = (x6_2 ++ [(rd_T56 l0_0 x7_2).f0]) := ⟨_, rfl⟩
         replace H : (midrangelaw04_SegmentNumbers.l0 k2 l1 y706 (wrap64 (x7_2 + 1)) l0_0 a0_1) = some r := by first | (rw [hy706]; with_reducible exact H) | (have H2_ := (Option.bind_some _ _).symm.trans H; rw [hy706]; with_reducible exact H2_) | (have H2_ := (Option.bind_some _ _).symm.trans H; with_reducible exact H2_) | with_reducible exact H | (rw [hy706]; exact H) | exact H
         have Ny706 := Aside0.mk hy706
         clear hy706
         have H' := Aside0.mk H
         clear H
         have hcz25_0 := cz_ BK700 0 (.slice A0_0 l0_0.length c0_0)
         have hcz25_1 := cz_ BK700 1 (.int .i64 a0_1)
         have hfz25_0 := blk_frozen BK700.out 0
         have hfz25_1 := blk_frozen BK700.out 1
         have p705 : 0 ≤ (x7_2 : Int) := ct_
         have q705 : x7_2 < (l0_0.length : Int) := ct_
         obtain ⟨ad705, e705, hx705_0, hx705_1⟩ := at_T56 HR0_0.out x7_2 p705 q705
         cases e705
         replace hx705_0 := pw_cell_below HB.out hx705_0
         replace hx705_1 := pw_cell_below HB.out hx705_1
         replace p705 := eq_true p705
         replace q705 := eq_true q705
         go_wp2_with (first | ((with_reducible refine gate_builtin (b := .append) (xs := #[.tmp 41, .tmp 48]) rfl ?_); at_builtin; refine Kd.R_append (Kd.int .i64) (w0 := w) w.heap.size rfl (.tmp 41) (.tmp 48) 64 3 (.int .i64 0) 8 rfl Try.underlying64 info3 rfl (by decide) (by omega) u6 x6_2 ((rd_T56 l0_0 x7_2).f0) [.int .i64 ((rd_T56 l0_0 x7_2).f0)] (fun _ => True) (fun _ => False) rfl rfl ?aP (fun _ hk => hk.elim) ?aF ?aO ?aB ?aS ?aL ?_; (case aP => exact rfl); (case aB => exact (pb_ HB)); (case aF => exact (fun _ _ => trivial)); (case aO => exact (rk_ HO_6)); (case aS => exact (below_size (pb_ HB))); (case aL => have := LMc24.out; omega); intro v707 w26 ho hb hg hat; rw [← Ny706.out] at ho; replace BK700 := Aside0.mk (blk_grown (g := gb700) (o := .cells #[.slice (some ad705) l0_0.length c0_0, .int .i64 a0_1] 24 (0, 0)) (pk_ BK700) hg (Kd.R_ne HO_6.out BK700.out (by decide))); replace HB := Aside0.mk (hb); have HO708 := Aside0.mk (ho); clear HO_6; clear ho hb hg hat))
         go_roundg k2
         case measure => have := HJ4.out; have := HK2.out; omega
         case rel => exact ⟨(y706), (wrap64 (x7_2 + 1)), rl_, H', ⟨by have := HJ4.out; have := HK2.out; omega⟩, ⟨by (with_reducible repeat (first | apply Kd.R_alloc | apply Kd.R_drewN | apply Kd.R_drew)); exact HO708.out⟩, ⟨pk_ BK700⟩, ⟨pb_ HB⟩⟩
        rw [if_neg c24] at H
        exact absurd H (by simp)
       rw [if_neg c23] at H
       exact absurd H (by simp)
      rw [if_neg c22] at H
      have c22b0 : decide (x7_2 < (l0_0.length : Int)) = false := decide_eq_false c22
      clear c22
      replace H := Option.bind_eq_some_iff.mp H
      obtain ⟨⟨t709, t712⟩, A270, H⟩ := H
      replace H : (midrangelaw04_SegmentNumbers.l1 k2 l1 ([] : List Int) x6_2 0 t709 t712) = some r := H
      have A27 := Aside0.mk A270
      clear A270
      have HC28 := Aside0.mk H
      clear H
      have hcz29_0 := cz_ BK700 0 (.slice A0_0 l0_0.length c0_0)
      have hcz29_1 := cz_ BK700 1 (.int .i64 a0_1)
      have hfz29_0 := blk_frozen BK700.out 0
      have hfz29_1 := blk_frozen BK700.out 1
      go_upto_block 2 with (first | ((with_reducible refine gate_callee (f := 13) rfl ?_); refine gl_ 51 Try.func13 #[.agg #[.slice A0_0 l0_0.length c0_0, .int .i64 a0_1]] ?_; (with_reducible refine (midrangeref04_Own.calls _ _ l0_0 a0_1 t709 t712 _ ?side1 ?side2 A27.out).mono ?_); (case side1 => exact pc_ (Kd.C_below HR0_0.out HB.out)); (case side2 => exact HC0_0.out); rintro e w30 ⟨v710, rfl, ho0, hb⟩; refine ⟨_, rfl, ?_⟩; replace HO_6 := Aside0.mk (Kd.R_below (rk_ HO_6) hb); have HO711 := Aside0.mk (Kd.R_lower ho0 (below_size (pb_ HB))); replace BK700 := kb_ BK700 hb; replace HB := sb_ HB hb; (try clear hb); (try clear hb2); (try clear hk); (try clear hi); (try clear ho0)) | ((with_reducible refine gate_dst (N := 8) rfl ?_); refine bx_ 8 #[.slice none 0 0, .int .i64 0] 24 ?_; intro gb713 hg w31 hbox hb; replace HO_6 := Aside0.mk (Kd.R_below (rk_ HO_6) hb); replace HO711 := Aside0.mk (Kd.R_below (rk_ HO711) hb); have BK713 := Aside0.mk (hbox); have GW713 := gw_ hg HB; have GE713 := gw_ hg HB; replace HB := sb_ HB hb; have NB700_713 := nl_ hg BK700; have NB713_700 := ng_ hg BK700; replace BK700 := kb_ BK700 hb; clear hb hbox hg; obtain ⟨Ao32, co32, eo32⟩ := Kd.R_slice HO711.out; subst eo32; have hnb33 := NB713_700.out; have hnc33 := NB700_713.out; have hcz34_0 := cz_ BK713 0 (.slice none 0 0); have hcz34_1 := cz_ BK713 1 (.int .i64 0); have hfz34_0 := blk_frozen BK713.out 0; have hfz34_1 := blk_frozen BK713.out 1))
      (try simp only [Act.put, List.setIfInBounds_toArray, List.set_cons_zero, List.set_cons_succ])
      go_cut [5] (fun v5 wc => ∃ (kq : Nat) (x5_27 : List Int) (x714000_27 : List (S56)) (x714001_27 : Int) (u714000 : Value), Aside0 (midrangelaw04_SegmentNumbers.j5 kq x5_27 x714000_27 x714001_27 = some r) ∧ Aside0 (kq ≤ k2) ∧ Aside0 (Kd.R (Kd.int .i64) 3 wc w.heap.size (fun _ => True) v5 x5_27) ∧ Aside0 (Kd.R k56 56 wc w.heap.size (fun _ => True) u714000 x714000_27) ∧ Aside0 (wc.heap[gb700]? = some (.cells #[(.slice A0_0 l0_0.length c0_0), .int .i64 a0_1] 24 (0, 0))) ∧ Aside0 (wc.heap[gb713]? = some (.cells #[u714000, .int .i64 x714001_27] 24 (0, 0))) ∧ Aside0 (Below w.heap.size w wc))
      case first =>
       have H := HC28.out
       clear HC28
       have H' := Aside0.mk H
       clear H
       go_wp2
       go_loopg [5, 6, 9] k2 (fun kq v5 v6 v9 w' => ∃ (x5_3 : List Int) (x6_3 : List Int) (x9_3 : Int) (x714000_3 : List (S56)) (x714001_3 : Int) (u714000 : Value), v9 = .int .i64 x9_3 ∧ Aside0 (midrangelaw04_SegmentNumbers.l1 kq l1 x5_3 x6_3 x9_3 x714000_3 x714001_3 = some r) ∧ Aside0 (kq ≤ k2) ∧ Aside0 (Kd.R (Kd.int .i64) 3 w' w.heap.size (fun k_ => some k_ ≠ (v6 : Value).ownBlock) v5 x5_3) ∧ Aside0 (Kd.R (Kd.int .i64) 3 w' w.heap.size (fun k_ => some k_ ≠ (v5 : Value).ownBlock) v6 x6_3) ∧ Aside0 (Kd.R k56 56 w' w.heap.size (fun _ => True) u714000 x714000_3) ∧ Aside0 (w'.heap[gb700]? = some (.cells #[(.slice A0_0 l0_0.length c0_0), .int .i64 a0_1] 24 (0, 0))) ∧ Aside0 (w'.heap[gb713]? = some (.cells #[u714000, .int .i64 x714001_3] 24 (0, 0))) ∧ Aside0 (Below w.heap.size w w'))
       case atStart => exact ⟨(([] : List Int)), (x6_2), (0), (t709), (t712), (.slice Ao32 t709.length co32), rl_, H', ⟨Nat.le_refl _⟩, ⟨by first | exact Kd.R_nil _ _ _ _ _ | exact Kd.N_nil _ _ _ _ _ | exact Kd.V_nil _ _ _ _ _ | exact Kd.Q_nil _ _ _ _ _ | exact Kd.S_nil _ _ _ _ _⟩, ⟨by (with_reducible repeat (first | apply Kd.R_alloc | apply Kd.R_drewN | apply Kd.R_drew)); exact Kd.R_mono (Kd.R_far (p := ⟨gb713, 1, none⟩) (Kd.R_far (p := ⟨gb713, 0, none⟩) (Kd.R_types HO_6.out BK713.out (by decide)) (fun _ hk => hk.2) (.slice Ao32 t709.length co32)) (fun _ hk => hk.2) (.int .i64 t712)) (fun _ hk => (by simp [Value.ownBlock]))⟩, ⟨by (with_reducible repeat (first | apply Kd.R_alloc | apply Kd.R_drewN | apply Kd.R_drew)); exact Kd.R_mono (Kd.R_far (p := ⟨gb713, 1, none⟩) (Kd.R_far (p := ⟨gb713, 0, none⟩) (Kd.R_types HO711.out BK713.out (by decide)) (fun _ hk => hk.2) (.slice Ao32 t709.length co32)) (fun _ hk => hk.2) (.int .i64 t712)) (fun _ hk => trivial)⟩, ⟨by (with_reducible repeat (first | refine blk_drewN ?_ _ | refine blk_drew ?_ | refine blk_alloc ?_ _)); refine blk_far ?_ NB700_713.out _; (with_reducible repeat (first | refine blk_drewN ?_ _ | refine blk_drew ?_ | refine blk_alloc ?_ _)); refine blk_far ?_ NB700_713.out _; (with_reducible repeat (first | refine blk_drewN ?_ _ | refine blk_drew ?_ | refine blk_alloc ?_ _)); exact BK700.out⟩, ⟨bq_ BK713⟩, ⟨pb_ HB⟩⟩
       case round =>
        clear H'
        try clear c1
        try clear c2
        try clear p2
        try clear c3
        try clear c4
        try clear p6
        try clear p7
        try clear q7
        try clear hx7
        try clear c9
        try clear c10
        try clear c11
        try clear c13
        try clear c21
        try clear c22
        try clear c22b0
        try clear c23
        try clear c23b0
        try clear c24
        try clear c33
        try clear hcz13_0
        try clear hcz13_1
        try clear hcz15_0
        try clear hcz15_1
        try clear hcz17_0
        try clear hcz17_1
        try clear hcz19_0
        try clear hcz19_1
        try clear hcz25_0
        try clear hcz25_1
        try clear hcz29_0
        try clear hcz29_1
        try clear hcz34_0
        try clear hcz34_1
        try clear hfz13_0
        try clear hfz13_1
        try clear hfz15_0
        try clear hfz15_1
        try clear hfz17_0
        try clear hfz17_1
        try clear hfz19_0
        try clear hfz19_1
        try clear hfz25_0
        try clear hfz25_1
        try clear hfz29_0
        try clear hfz29_1
        try clear hfz34_0
        try clear hfz34_1
        try clear hx705_0
        try clear hx705_1
        try clear p2
        try clear p705
        try clear q705
        obtain ⟨x5_3, x6_3, x9_3, x714000_3, x714001_3, u714000, rfl, HA, HK3, HO_5, HO_6, HO_714000, BK700, BK713, HB⟩ := hrel
        cases gk with
        | zero => exact absurd HA.out (by simp [midrangelaw04_SegmentNumbers.l1])
        | succ k3 =>
         have H := HA.out
         clear HA
         simp only [midrangelaw04_SegmentNumbers.l1] at H
         by_cases c35 : x9_3 < (l1.length : Int)
         ·
          rw [if_pos c35] at H
          have c35b0 : decide (x9_3 < (l1.length : Int)) = true := decide_eq_true c35
          clear c35
          (first | rw [c35b0] | (simp only [i64_w, i32_w]; rw [c35b0]) | skip)
          replace H := Option.bind_eq_some_iff.mp H
          obtain ⟨⟨t714, t717⟩, A360, H⟩ := H
          replace H : (if 0 ≤ x9_3 then ((segment_Applied.f k3 t714 t717 (([(⟨(rd_T66 l1 x9_3).f0, (rd_T66 l1 x9_3).f1, (rd_T66 l1 x9_3).f2, (rd_T66 l1 x9_3).f3, (rd_T66 l1 x9_3).f4⟩ : S66)] : List (S66)))).bind fun bt722 => (if bt722.2.2.2 = 0 then (if bt722.2.2.1 = 1 then ((midrangelaw04_few.f k3 bt722.1 bt722.2.1).bind fun t729 => (midrangelaw04_SegmentNumbers.j3 k3 l1 x5_3 x6_3 x9_3 (!t729) x714000_3 x714001_3 bt722.1 bt722.2.1)) else (midrangelaw04_SegmentNumbers.j3 k3 l1 x5_3 x6_3 x9_3 true x714000_3 x714001_3 bt722.1 bt722.2.1)) else (midrangelaw04_SegmentNumbers.j5 k3 x5_3 x714000_3 x714001_3))) else (none)) = some r := H
          have A36 := Aside0.mk A360
          clear A360
          by_cases c37 : 0 ≤ x9_3
          ·
           rw [if_pos c37] at H
           have c37b0 : decide (0 ≤ x9_3) = true := decide_eq_true c37
           clear c37
           obtain ⟨y719, hy719⟩ : ∃ y_ : List (S66), y_ = (([(⟨(rd_T66 l1 x9_3).f0, (rd_T66 l1 x9_3).f1, (rd_T66 l1 x9_3).f2, (rd_T66 l1 x9_3).f3, (rd_T66 l1 x9_3).f4⟩ : S66)] : List (S66))) := ⟨_, rfl⟩
           replace H : ((segment_Applied.f k3 t714 t717 y719).bind fun bt722 => (if bt722.2.2.2 = 0 then (if bt722.2.2.1 = 1 then ((midrangelaw04_few.f k3 bt722.1 bt722.2.1).bind fun t729 => (midrangelaw04_SegmentNumbers.j3 k3 l1 x5_3 x6_3 x9_3 (!t729) x714000_3 x714001_3 bt722.1 bt722.2.1)) else (midrangelaw04_SegmentNumbers.j3 k3 l1 x5_3 x6_3 x9_3 true x714000_3 x714001_3 bt722.1 bt722.2.1)) else (midrangelaw04_SegmentNumbers.j5 k3 x5_3 x714000_3 x714001_3))) = some r := by first | (rw [hy719]; with_reducible exact H) | (have H2_ := (Option.bind_some _ _).symm.trans H; rw [hy719]; with_reducible exact H2_) | (have H2_ := (Option.bind_some _ _).symm.trans H; with_reducible exact H2_) | with_reducible exact H | (rw [hy719]; exact H) | exact H
           have Ny719 := Aside0.mk hy719
           clear hy719
           replace H := Option.bind_eq_some_iff.mp H
           obtain ⟨⟨t722, t725, t726, t727⟩, A380, H⟩ := H
           replace H : (if t727 = 0 then (if t726 = 1 then ((midrangelaw04_few.f k3 t722 t725).bind fun t729 => (midrangelaw04_SegmentNumbers.j3 k3 l1 x5_3 x6_3 x9_3 (!t729) x714000_3 x714001_3 t722 t725)) else (midrangelaw04_SegmentNumbers.j3 k3 l1 x5_3 x6_3 x9_3 true x714000_3 x714001_3 t722 t725)) else (midrangelaw04_SegmentNumbers.j5 k3 x5_3 x714000_3 x714001_3)) = some r := H
           have A38 := Aside0.mk A380
           clear A380
           by_cases c39 : t727 = 0
           ·
            rw [if_pos c39] at H
            have c39b0 : (t727 == 0) = true := beq_iff_eq.mpr c39
            have c39b1 : (t727 != 0) = false := bne_eq_false_iff_eq.mpr c39
            clear c39
            have HC40 := Aside0.mk H
            clear H
            obtain ⟨Ao41, co41, eo41⟩ := Kd.R_slice HO_714000.out
            subst eo41
            try go_wp2
            replace HO_5 := rd_ HO_5
            replace HO_6 := rd_ HO_6
            replace HO_714000 := rd_ HO_714000
            replace BK700 := Aside0.mk (blk_drew BK700.out)
            replace BK713 := Aside0.mk (blk_drew BK713.out)
            replace HB := Aside0.mk (below_drew1 HB.out)
            have p718 : 0 ≤ (x9_3 : Int) := ct_
            have q718 : x9_3 < (l1.length : Int) := ct_
            obtain ⟨ad718, e718, hx718_0, hx718_1, hx718_2, hx718_3, hx718_4⟩ := at_T66 HR1.out x9_3 p718 q718
            have hw718_4 := hx718_4
            have hw718_3 := hx718_3
            have hw718_2 := hx718_2
            have hw718_1 := hx718_1
            have hw718_0 := hx718_0
            cases e718
            replace hx718_0 := pw_cell_below HB.out hx718_0
            replace hx718_1 := pw_cell_below HB.out hx718_1
            replace hx718_2 := pw_cell_below HB.out hx718_2
            replace hx718_3 := pw_cell_below HB.out hx718_3
            replace hx718_4 := pw_cell_below HB.out hx718_4
            replace p718 := eq_true p718
            replace q718 := eq_true q718
            refine start_ (n := 16) (S := fun w' => w'.cell? ⟨gb713, 0, none⟩ = some (.slice Ao41 x714000_3.length co41) ∧ w'.cell? ⟨gb713, 1, none⟩ = some (.int .i64 x714001_3) ∧ w'.cell? (ad718.add ((x9_3).toNat * 5)) = some (.int .i64 ((rd_T66 l1 x9_3).f0)) ∧ w'.cell? ⟨(ad718.add ((x9_3).toNat * 5)).block, (ad718.add ((x9_3).toNat * 5)).off + 1, none⟩ = some (.int .i64 ((rd_T66 l1 x9_3).f1)) ∧ w'.cell? ⟨(ad718.add ((x9_3).toNat * 5)).block, (ad718.add ((x9_3).toNat * 5)).off + 2, none⟩ = some (.int .i64 ((rd_T66 l1 x9_3).f2)) ∧ w'.cell? ⟨(ad718.add ((x9_3).toNat * 5)).block, (ad718.add ((x9_3).toNat * 5)).off + 3, none⟩ = some (.int .i64 ((rd_T66 l1 x9_3).f3)) ∧ w'.cell? ⟨(ad718.add ((x9_3).toNat * 5)).block, (ad718.add ((x9_3).toNat * 5)).off + 4, none⟩ = some (.string ((rd_T66 l1 x9_3).f4))) (ds := []) #[false, false, false, false, false, false, false, false, false, false, false, false, false, false, false, false] (by kernel_rfl) rfl rfl ⟨cy_ BK713 0, cy_ BK713 1, (pw_cell_below HB.out hw718_0), (pw_cell_below HB.out hw718_1), (pw_cell_below HB.out hw718_2), (pw_cell_below HB.out hw718_3), (pw_cell_below HB.out hw718_4)⟩ (fun hHeld => ?_); refine with_tabW midrangelaw04_SegmentNumbers.tab14 midrangelaw04_SegmentNumbers.bits14 (fun HT_ HW_ => ?_)
            generalize wr.drew = w42 at HO_5 HO_6 HO_714000 BK700 BK713 HB hx718_0 hx718_1 hx718_2 hx718_3 hx718_4 hHeld ⊢
            refine pu_ 2 61 HT_ ?_
            refine pu_ 3 62 HT_ ?_
            refine pu_ 4 63 HT_ ?_
            refine tk_ 0 59 HT_ HW_ hHeld rfl (Or.inl ⟨by rfl, by rintro w' ⟨s0, s1, s2, s3, s4, s5, s6⟩; go_simp; with_reducible rfl⟩) ?_
            refine tk_ 5 64 HT_ HW_ hHeld rfl (Or.inl ⟨by rfl, by rintro w' ⟨s0, s1, s2, s3, s4, s5, s6⟩; go_simp; with_reducible rfl⟩) ?_
            refine join_ (σ := Value × Value × Value × Nat) 3 #[true, true, true, true, true, true, true, true, true, true, true, true, true, false, false, false] (fun s_ => [(60, .agg #[s_.1, .int .i64 t717]), (65, s_.2.1), (66, .tuple #[.agg #[s_.2.2.1, .int .i64 t725], .int .i64 t726, .int .i64 t727]), (10, .pointer (some ⟨s_.2.2.2, 0, none⟩)), (58, .tuple #[.agg #[s_.2.2.1, .int .i64 t725], .int .i64 t726, .int .i64 t727]), (67, .agg #[s_.2.2.1, .int .i64 t725]), (68, .int .i64 t726), (69, .int .i64 t727)]) (fun s_ w' => (w'.cell? ⟨gb713, 0, none⟩ = some (.slice Ao41 x714000_3.length co41) ∧ w'.cell? ⟨gb713, 1, none⟩ = some (.int .i64 x714001_3) ∧ w'.cell? (ad718.add ((x9_3).toNat * 5)) = some (.int .i64 ((rd_T66 l1 x9_3).f0)) ∧ w'.cell? ⟨(ad718.add ((x9_3).toNat * 5)).block, (ad718.add ((x9_3).toNat * 5)).off + 1, none⟩ = some (.int .i64 ((rd_T66 l1 x9_3).f1)) ∧ w'.cell? ⟨(ad718.add ((x9_3).toNat * 5)).block, (ad718.add ((x9_3).toNat * 5)).off + 2, none⟩ = some (.int .i64 ((rd_T66 l1 x9_3).f2)) ∧ w'.cell? ⟨(ad718.add ((x9_3).toNat * 5)).block, (ad718.add ((x9_3).toNat * 5)).off + 3, none⟩ = some (.int .i64 ((rd_T66 l1 x9_3).f3)) ∧ w'.cell? ⟨(ad718.add ((x9_3).toNat * 5)).block, (ad718.add ((x9_3).toNat * 5)).off + 4, none⟩ = some (.string ((rd_T66 l1 x9_3).f4))) ∧ (Kd.R k56 56 w' w.heap.size (fun k_ => some k_ ≠ (s_.2.2.1 : Value).ownBlock ∧ some k_ ≠ (.slice Ao41 x714000_3.length co41 : Value).ownBlock) s_.1 t714) ∧ (Kd.R k66 66 w' w.heap.size (fun _ => True) s_.2.1 y719) ∧ (Kd.R k56 56 w' w.heap.size (fun k_ => some k_ ≠ (s_.1 : Value).ownBlock ∧ some k_ ≠ (.slice Ao41 x714000_3.length co41 : Value).ownBlock) s_.2.2.1 t722) ∧ (Kd.R (Kd.int .i64) 3 w' w.heap.size (fun k_ => some k_ ≠ (u6 : Value).ownBlock) u5 x5_3) ∧ (Kd.R (Kd.int .i64) 3 w' w.heap.size (fun k_ => some k_ ≠ (u5 : Value).ownBlock) u6 x6_3) ∧ (Kd.R k56 56 w' w.heap.size (fun k_ => some k_ ≠ (s_.1 : Value).ownBlock ∧ some k_ ≠ (s_.2.2.1 : Value).ownBlock) (.slice Ao41 x714000_3.length co41) x714000_3) ∧ (w'.heap[gb700]? = some (.cells #[.slice A0_0 l0_0.length c0_0, .int .i64 a0_1] 24 (0, 0))) ∧ (w'.heap[gb713]? = some (.cells #[.slice Ao41 x714000_3.length co41, .int .i64 x714001_3] 24 (0, 0))) ∧ (w'.heap[s_.2.2.2]? = some (.cells #[.slice none 0 0, .int .i64 0] 24 (0, 0))) ∧ (w.heap.size ≤ s_.2.2.2) ∧ (w.heap.size ≤ s_.2.2.2) ∧ (gb700 ≠ s_.2.2.2) ∧ (s_.2.2.2 ≠ gb700) ∧ (gb713 ≠ s_.2.2.2) ∧ (s_.2.2.2 ≠ gb713) ∧ (Below w.heap.size w w')) ?_ ?_
            rotate_left
            ·
             intro hJ1_6_7_12
             refine join_ (σ := Value × Value × Value) 4 #[true, true, true, true, true, true, true, true, true, true, true, true, false, false, false, false] (fun s_ => [(60, .agg #[s_.1, .int .i64 t717]), (65, s_.2.1), (66, .tuple #[.agg #[s_.2.2, .int .i64 t725], .int .i64 t726, .int .i64 t727]), (58, .tuple #[.agg #[s_.2.2, .int .i64 t725], .int .i64 t726, .int .i64 t727]), (67, .agg #[s_.2.2, .int .i64 t725]), (68, .int .i64 t726), (69, .int .i64 t727)]) (fun s_ w' => (w'.cell? ⟨gb713, 0, none⟩ = some (.slice Ao41 x714000_3.length co41) ∧ w'.cell? ⟨gb713, 1, none⟩ = some (.int .i64 x714001_3) ∧ w'.cell? (ad718.add ((x9_3).toNat * 5)) = some (.int .i64 ((rd_T66 l1 x9_3).f0)) ∧ w'.cell? ⟨(ad718.add ((x9_3).toNat * 5)).block, (ad718.add ((x9_3).toNat * 5)).off + 1, none⟩ = some (.int .i64 ((rd_T66 l1 x9_3).f1)) ∧ w'.cell? ⟨(ad718.add ((x9_3).toNat * 5)).block, (ad718.add ((x9_3).toNat * 5)).off + 2, none⟩ = some (.int .i64 ((rd_T66 l1 x9_3).f2)) ∧ w'.cell? ⟨(ad718.add ((x9_3).toNat * 5)).block, (ad718.add ((x9_3).toNat * 5)).off + 3, none⟩ = some (.int .i64 ((rd_T66 l1 x9_3).f3)) ∧ w'.cell? ⟨(ad718.add ((x9_3).toNat * 5)).block, (ad718.add ((x9_3).toNat * 5)).off + 4, none⟩ = some (.string ((rd_T66 l1 x9_3).f4))) ∧ (Kd.R k56 56 w' w.heap.size (fun k_ => some k_ ≠ (s_.2.2 : Value).ownBlock ∧ some k_ ≠ (.slice Ao41 x714000_3.length co41 : Value).ownBlock) s_.1 t714) ∧ (Kd.R k66 66 w' w.heap.size (fun _ => True) s_.2.1 y719) ∧ (Kd.R k56 56 w' w.heap.size (fun k_ => some k_ ≠ (s_.1 : Value).ownBlock ∧ some k_ ≠ (.slice Ao41 x714000_3.length co41 : Value).ownBlock) s_.2.2 t722) ∧ (Kd.R (Kd.int .i64) 3 w' w.heap.size (fun k_ => some k_ ≠ (u6 : Value).ownBlock) u5 x5_3) ∧ (Kd.R (Kd.int .i64) 3 w' w.heap.size (fun k_ => some k_ ≠ (u5 : Value).ownBlock) u6 x6_3) ∧ (Kd.R k56 56 w' w.heap.size (fun k_ => some k_ ≠ (s_.1 : Value).ownBlock ∧ some k_ ≠ (s_.2.2 : Value).ownBlock) (.slice Ao41 x714000_3.length co41) x714000_3) ∧ (w'.heap[gb700]? = some (.cells #[.slice A0_0 l0_0.length c0_0, .int .i64 a0_1] 24 (0, 0))) ∧ (w'.heap[gb713]? = some (.cells #[.slice Ao41 x714000_3.length co41, .int .i64 x714001_3] 24 (0, 0))) ∧ (Below w.heap.size w w')) ?_ ?_
             rotate_left
             ·
              intro hJ1_6_7
              refine join_ (σ := Value × Value × Nat) 8 #[true, true, true, true, true, true, true, false, false, false, false, false, true, false, false, false] (fun s_ => [(60, .agg #[s_.1, .int .i64 t717]), (65, s_.2.1), (10, .pointer (some ⟨s_.2.2, 0, none⟩))]) (fun s_ w' => (w'.cell? ⟨gb713, 0, none⟩ = some (.slice Ao41 x714000_3.length co41) ∧ w'.cell? ⟨gb713, 1, none⟩ = some (.int .i64 x714001_3) ∧ w'.cell? (ad718.add ((x9_3).toNat * 5)) = some (.int .i64 ((rd_T66 l1 x9_3).f0)) ∧ w'.cell? ⟨(ad718.add ((x9_3).toNat * 5)).block, (ad718.add ((x9_3).toNat * 5)).off + 1, none⟩ = some (.int .i64 ((rd_T66 l1 x9_3).f1)) ∧ w'.cell? ⟨(ad718.add ((x9_3).toNat * 5)).block, (ad718.add ((x9_3).toNat * 5)).off + 2, none⟩ = some (.int .i64 ((rd_T66 l1 x9_3).f2)) ∧ w'.cell? ⟨(ad718.add ((x9_3).toNat * 5)).block, (ad718.add ((x9_3).toNat * 5)).off + 3, none⟩ = some (.int .i64 ((rd_T66 l1 x9_3).f3)) ∧ w'.cell? ⟨(ad718.add ((x9_3).toNat * 5)).block, (ad718.add ((x9_3).toNat * 5)).off + 4, none⟩ = some (.string ((rd_T66 l1 x9_3).f4))) ∧ (Kd.R k56 56 w' w.heap.size (fun k_ => some k_ ≠ (.slice Ao41 x714000_3.length co41 : Value).ownBlock) s_.1 t714) ∧ (Kd.R k66 66 w' w.heap.size (fun _ => True) s_.2.1 y719) ∧ (Kd.R (Kd.int .i64) 3 w' w.heap.size (fun k_ => some k_ ≠ (u6 : Value).ownBlock) u5 x5_3) ∧ (Kd.R (Kd.int .i64) 3 w' w.heap.size (fun k_ => some k_ ≠ (u5 : Value).ownBlock) u6 x6_3) ∧ (Kd.R k56 56 w' w.heap.size (fun k_ => some k_ ≠ (s_.1 : Value).ownBlock) (.slice Ao41 x714000_3.length co41) x714000_3) ∧ (w'.heap[gb700]? = some (.cells #[.slice A0_0 l0_0.length c0_0, .int .i64 a0_1] 24 (0, 0))) ∧ (w'.heap[gb713]? = some (.cells #[.slice Ao41 x714000_3.length co41, .int .i64 x714001_3] 24 (0, 0))) ∧ (w'.heap[s_.2.2]? = some (.cells #[.slice none 0 0, .int .i64 0] 24 (0, 0))) ∧ (w.heap.size ≤ s_.2.2) ∧ (w.heap.size ≤ s_.2.2) ∧ (gb700 ≠ s_.2.2) ∧ (s_.2.2 ≠ gb700) ∧ (gb713 ≠ s_.2.2) ∧ (s_.2.2 ≠ gb713) ∧ (Below w.heap.size w w')) ?_ ?_
              rotate_left
              ·
               intro hJ1_6_12
               refine join_ (σ := Value × Value) 9 #[true, true, true, true, true, true, true, false, false, false, false, false, false, false, false, false] (fun s_ => [(60, .agg #[s_.1, .int .i64 t717]), (65, s_.2)]) (fun s_ w' => (w'.cell? ⟨gb713, 0, none⟩ = some (.slice Ao41 x714000_3.length co41) ∧ w'.cell? ⟨gb713, 1, none⟩ = some (.int .i64 x714001_3) ∧ w'.cell? (ad718.add ((x9_3).toNat * 5)) = some (.int .i64 ((rd_T66 l1 x9_3).f0)) ∧ w'.cell? ⟨(ad718.add ((x9_3).toNat * 5)).block, (ad718.add ((x9_3).toNat * 5)).off + 1, none⟩ = some (.int .i64 ((rd_T66 l1 x9_3).f1)) ∧ w'.cell? ⟨(ad718.add ((x9_3).toNat * 5)).block, (ad718.add ((x9_3).toNat * 5)).off + 2, none⟩ = some (.int .i64 ((rd_T66 l1 x9_3).f2)) ∧ w'.cell? ⟨(ad718.add ((x9_3).toNat * 5)).block, (ad718.add ((x9_3).toNat * 5)).off + 3, none⟩ = some (.int .i64 ((rd_T66 l1 x9_3).f3)) ∧ w'.cell? ⟨(ad718.add ((x9_3).toNat * 5)).block, (ad718.add ((x9_3).toNat * 5)).off + 4, none⟩ = some (.string ((rd_T66 l1 x9_3).f4))) ∧ (Kd.R k56 56 w' w.heap.size (fun k_ => some k_ ≠ (.slice Ao41 x714000_3.length co41 : Value).ownBlock) s_.1 t714) ∧ (Kd.R k66 66 w' w.heap.size (fun _ => True) s_.2 y719) ∧ (Kd.R (Kd.int .i64) 3 w' w.heap.size (fun k_ => some k_ ≠ (u6 : Value).ownBlock) u5 x5_3) ∧ (Kd.R (Kd.int .i64) 3 w' w.heap.size (fun k_ => some k_ ≠ (u5 : Value).ownBlock) u6 x6_3) ∧ (Kd.R k56 56 w' w.heap.size (fun k_ => some k_ ≠ (s_.1 : Value).ownBlock) (.slice Ao41 x714000_3.length co41) x714000_3) ∧ (w'.heap[gb700]? = some (.cells #[.slice A0_0 l0_0.length c0_0, .int .i64 a0_1] 24 (0, 0))) ∧ (w'.heap[gb713]? = some (.cells #[.slice Ao41 x714000_3.length co41, .int .i64 x714001_3] 24 (0, 0))) ∧ (Below w.heap.size w w')) ?_ ?_
               rotate_left
               ·
                intro hJ1_6
                refine join_ (σ := Value × Nat) 9 #[true, true, true, true, true, true, false, false, false, false, false, false, true, false, false, false] (fun s_ => [(60, .agg #[s_.1, .int .i64 t717]), (10, .pointer (some ⟨s_.2, 0, none⟩))]) (fun s_ w' => (w'.cell? ⟨gb713, 0, none⟩ = some (.slice Ao41 x714000_3.length co41) ∧ w'.cell? ⟨gb713, 1, none⟩ = some (.int .i64 x714001_3) ∧ w'.cell? (ad718.add ((x9_3).toNat * 5)) = some (.int .i64 ((rd_T66 l1 x9_3).f0)) ∧ w'.cell? ⟨(ad718.add ((x9_3).toNat * 5)).block, (ad718.add ((x9_3).toNat * 5)).off + 1, none⟩ = some (.int .i64 ((rd_T66 l1 x9_3).f1)) ∧ w'.cell? ⟨(ad718.add ((x9_3).toNat * 5)).block, (ad718.add ((x9_3).toNat * 5)).off + 2, none⟩ = some (.int .i64 ((rd_T66 l1 x9_3).f2)) ∧ w'.cell? ⟨(ad718.add ((x9_3).toNat * 5)).block, (ad718.add ((x9_3).toNat * 5)).off + 3, none⟩ = some (.int .i64 ((rd_T66 l1 x9_3).f3)) ∧ w'.cell? ⟨(ad718.add ((x9_3).toNat * 5)).block, (ad718.add ((x9_3).toNat * 5)).off + 4, none⟩ = some (.string ((rd_T66 l1 x9_3).f4))) ∧ (Kd.R k56 56 w' w.heap.size (fun k_ => some k_ ≠ (.slice Ao41 x714000_3.length co41 : Value).ownBlock) s_.1 t714) ∧ (Kd.R (Kd.int .i64) 3 w' w.heap.size (fun k_ => some k_ ≠ (u6 : Value).ownBlock) u5 x5_3) ∧ (Kd.R (Kd.int .i64) 3 w' w.heap.size (fun k_ => some k_ ≠ (u5 : Value).ownBlock) u6 x6_3) ∧ (Kd.R k56 56 w' w.heap.size (fun k_ => some k_ ≠ (s_.1 : Value).ownBlock) (.slice Ao41 x714000_3.length co41) x714000_3) ∧ (w'.heap[gb700]? = some (.cells #[.slice A0_0 l0_0.length c0_0, .int .i64 a0_1] 24 (0, 0))) ∧ (w'.heap[gb713]? = some (.cells #[.slice Ao41 x714000_3.length co41, .int .i64 x714001_3] 24 (0, 0))) ∧ (w'.heap[s_.2]? = some (.cells #[.slice none 0 0, .int .i64 0] 24 (0, 0))) ∧ (w.heap.size ≤ s_.2) ∧ (w.heap.size ≤ s_.2) ∧ (gb700 ≠ s_.2) ∧ (s_.2 ≠ gb700) ∧ (gb713 ≠ s_.2) ∧ (s_.2 ≠ gb713) ∧ (Below w.heap.size w w')) ?_ ?_
                rotate_left
                ·
                 intro hJ1_12
                 refine join_ (σ := Value × Nat) 9 #[true, false, true, true, true, true, true, false, false, false, false, false, true, false, false, false] (fun s_ => [(65, s_.1), (10, .pointer (some ⟨s_.2, 0, none⟩))]) (fun s_ w' => (w'.cell? ⟨gb713, 0, none⟩ = some (.slice Ao41 x714000_3.length co41) ∧ w'.cell? ⟨gb713, 1, none⟩ = some (.int .i64 x714001_3) ∧ w'.cell? (ad718.add ((x9_3).toNat * 5)) = some (.int .i64 ((rd_T66 l1 x9_3).f0)) ∧ w'.cell? ⟨(ad718.add ((x9_3).toNat * 5)).block, (ad718.add ((x9_3).toNat * 5)).off + 1, none⟩ = some (.int .i64 ((rd_T66 l1 x9_3).f1)) ∧ w'.cell? ⟨(ad718.add ((x9_3).toNat * 5)).block, (ad718.add ((x9_3).toNat * 5)).off + 2, none⟩ = some (.int .i64 ((rd_T66 l1 x9_3).f2)) ∧ w'.cell? ⟨(ad718.add ((x9_3).toNat * 5)).block, (ad718.add ((x9_3).toNat * 5)).off + 3, none⟩ = some (.int .i64 ((rd_T66 l1 x9_3).f3)) ∧ w'.cell? ⟨(ad718.add ((x9_3).toNat * 5)).block, (ad718.add ((x9_3).toNat * 5)).off + 4, none⟩ = some (.string ((rd_T66 l1 x9_3).f4))) ∧ (Kd.R k66 66 w' w.heap.size (fun _ => True) s_.1 y719) ∧ (Kd.R (Kd.int .i64) 3 w' w.heap.size (fun k_ => some k_ ≠ (u6 : Value).ownBlock) u5 x5_3) ∧ (Kd.R (Kd.int .i64) 3 w' w.heap.size (fun k_ => some k_ ≠ (u5 : Value).ownBlock) u6 x6_3) ∧ (Kd.R k56 56 w' w.heap.size (fun _ => True) (.slice Ao41 x714000_3.length co41) x714000_3) ∧ (w'.heap[gb700]? = some (.cells #[.slice A0_0 l0_0.length c0_0, .int .i64 a0_1] 24 (0, 0))) ∧ (w'.heap[gb713]? = some (.cells #[.slice Ao41 x714000_3.length co41, .int .i64 x714001_3] 24 (0, 0))) ∧ (w'.heap[s_.2]? = some (.cells #[.slice none 0 0, .int .i64 0] 24 (0, 0))) ∧ (w.heap.size ≤ s_.2) ∧ (w.heap.size ≤ s_.2) ∧ (gb700 ≠ s_.2) ∧ (s_.2 ≠ gb700) ∧ (gb713 ≠ s_.2) ∧ (s_.2 ≠ gb713) ∧ (Below w.heap.size w w')) ?_ ?_
                 rotate_left
                 ·
                  intro hJ6_12
                  refine join_ (σ := Value) 10 #[true, true, true, true, true, true, false, false, false, false, false, false, false, false, false, false] (fun s_ => [(60, .agg #[s_, .int .i64 t717])]) (fun s_ w' => (w'.cell? ⟨gb713, 0, none⟩ = some (.slice Ao41 x714000_3.length co41) ∧ w'.cell? ⟨gb713, 1, none⟩ = some (.int .i64 x714001_3) ∧ w'.cell? (ad718.add ((x9_3).toNat * 5)) = some (.int .i64 ((rd_T66 l1 x9_3).f0)) ∧ w'.cell? ⟨(ad718.add ((x9_3).toNat * 5)).block, (ad718.add ((x9_3).toNat * 5)).off + 1, none⟩ = some (.int .i64 ((rd_T66 l1 x9_3).f1)) ∧ w'.cell? ⟨(ad718.add ((x9_3).toNat * 5)).block, (ad718.add ((x9_3).toNat * 5)).off + 2, none⟩ = some (.int .i64 ((rd_T66 l1 x9_3).f2)) ∧ w'.cell? ⟨(ad718.add ((x9_3).toNat * 5)).block, (ad718.add ((x9_3).toNat * 5)).off + 3, none⟩ = some (.int .i64 ((rd_T66 l1 x9_3).f3)) ∧ w'.cell? ⟨(ad718.add ((x9_3).toNat * 5)).block, (ad718.add ((x9_3).toNat * 5)).off + 4, none⟩ = some (.string ((rd_T66 l1 x9_3).f4))) ∧ (Kd.R k56 56 w' w.heap.size (fun k_ => some k_ ≠ (.slice Ao41 x714000_3.length co41 : Value).ownBlock) s_ t714) ∧ (Kd.R (Kd.int .i64) 3 w' w.heap.size (fun k_ => some k_ ≠ (u6 : Value).ownBlock) u5 x5_3) ∧ (Kd.R (Kd.int .i64) 3 w' w.heap.size (fun k_ => some k_ ≠ (u5 : Value).ownBlock) u6 x6_3) ∧ (Kd.R k56 56 w' w.heap.size (fun k_ => some k_ ≠ (s_ : Value).ownBlock) (.slice Ao41 x714000_3.length co41) x714000_3) ∧ (w'.heap[gb700]? = some (.cells #[.slice A0_0 l0_0.length c0_0, .int .i64 a0_1] 24 (0, 0))) ∧ (w'.heap[gb713]? = some (.cells #[.slice Ao41 x714000_3.length co41, .int .i64 x714001_3] 24 (0, 0))) ∧ (Below w.heap.size w w')) ?_ ?_
                  rotate_left
                  ·
                   intro hJ1
                   refine join_ (σ := Value) 10 #[true, false, true, true, true, true, true, false, false, false, false, false, false, false, false, false] (fun s_ => [(65, s_)]) (fun s_ w' => (w'.cell? ⟨gb713, 0, none⟩ = some (.slice Ao41 x714000_3.length co41) ∧ w'.cell? ⟨gb713, 1, none⟩ = some (.int .i64 x714001_3) ∧ w'.cell? (ad718.add ((x9_3).toNat * 5)) = some (.int .i64 ((rd_T66 l1 x9_3).f0)) ∧ w'.cell? ⟨(ad718.add ((x9_3).toNat * 5)).block, (ad718.add ((x9_3).toNat * 5)).off + 1, none⟩ = some (.int .i64 ((rd_T66 l1 x9_3).f1)) ∧ w'.cell? ⟨(ad718.add ((x9_3).toNat * 5)).block, (ad718.add ((x9_3).toNat * 5)).off + 2, none⟩ = some (.int .i64 ((rd_T66 l1 x9_3).f2)) ∧ w'.cell? ⟨(ad718.add ((x9_3).toNat * 5)).block, (ad718.add ((x9_3).toNat * 5)).off + 3, none⟩ = some (.int .i64 ((rd_T66 l1 x9_3).f3)) ∧ w'.cell? ⟨(ad718.add ((x9_3).toNat * 5)).block, (ad718.add ((x9_3).toNat * 5)).off + 4, none⟩ = some (.string ((rd_T66 l1 x9_3).f4))) ∧ (Kd.R k66 66 w' w.heap.size (fun _ => True) s_ y719) ∧ (Kd.R (Kd.int .i64) 3 w' w.heap.size (fun k_ => some k_ ≠ (u6 : Value).ownBlock) u5 x5_3) ∧ (Kd.R (Kd.int .i64) 3 w' w.heap.size (fun k_ => some k_ ≠ (u5 : Value).ownBlock) u6 x6_3) ∧ (Kd.R k56 56 w' w.heap.size (fun _ => True) (.slice Ao41 x714000_3.length co41) x714000_3) ∧ (w'.heap[gb700]? = some (.cells #[.slice A0_0 l0_0.length c0_0, .int .i64 a0_1] 24 (0, 0))) ∧ (w'.heap[gb713]? = some (.cells #[.slice Ao41 x714000_3.length co41, .int .i64 x714001_3] 24 (0, 0))) ∧ (Below w.heap.size w w')) ?_ ?_
                   rotate_left
                   ·
                    intro hJ6
                    refine join_ (σ := Nat) 10 #[true, false, true, true, true, true, false, false, false, false, false, false, true, false, false, false] (fun s_ => [(10, .pointer (some ⟨s_, 0, none⟩))]) (fun s_ w' => (w'.cell? ⟨gb713, 0, none⟩ = some (.slice Ao41 x714000_3.length co41) ∧ w'.cell? ⟨gb713, 1, none⟩ = some (.int .i64 x714001_3) ∧ w'.cell? (ad718.add ((x9_3).toNat * 5)) = some (.int .i64 ((rd_T66 l1 x9_3).f0)) ∧ w'.cell? ⟨(ad718.add ((x9_3).toNat * 5)).block, (ad718.add ((x9_3).toNat * 5)).off + 1, none⟩ = some (.int .i64 ((rd_T66 l1 x9_3).f1)) ∧ w'.cell? ⟨(ad718.add ((x9_3).toNat * 5)).block, (ad718.add ((x9_3).toNat * 5)).off + 2, none⟩ = some (.int .i64 ((rd_T66 l1 x9_3).f2)) ∧ w'.cell? ⟨(ad718.add ((x9_3).toNat * 5)).block, (ad718.add ((x9_3).toNat * 5)).off + 3, none⟩ = some (.int .i64 ((rd_T66 l1 x9_3).f3)) ∧ w'.cell? ⟨(ad718.add ((x9_3).toNat * 5)).block, (ad718.add ((x9_3).toNat * 5)).off + 4, none⟩ = some (.string ((rd_T66 l1 x9_3).f4))) ∧ (Kd.R (Kd.int .i64) 3 w' w.heap.size (fun k_ => some k_ ≠ (u6 : Value).ownBlock) u5 x5_3) ∧ (Kd.R (Kd.int .i64) 3 w' w.heap.size (fun k_ => some k_ ≠ (u5 : Value).ownBlock) u6 x6_3) ∧ (Kd.R k56 56 w' w.heap.size (fun _ => True) (.slice Ao41 x714000_3.length co41) x714000_3) ∧ (w'.heap[gb700]? = some (.cells #[.slice A0_0 l0_0.length c0_0, .int .i64 a0_1] 24 (0, 0))) ∧ (w'.heap[gb713]? = some (.cells #[.slice Ao41 x714000_3.length co41, .int .i64 x714001_3] 24 (0, 0))) ∧ (w'.heap[s_]? = some (.cells #[.slice none 0 0, .int .i64 0] 24 (0, 0))) ∧ (w.heap.size ≤ s_) ∧ (w.heap.size ≤ s_) ∧ (gb700 ≠ s_) ∧ (s_ ≠ gb700) ∧ (gb713 ≠ s_) ∧ (s_ ≠ gb713) ∧ (Below w.heap.size w w')) ?_ ?_
                    rotate_left
                    ·
                     intro hJ12
                     refine three_ (i := 1) (j := 6) (k := 12) (Ni := some 60) (Nj := some 65) (Nk := some 10) #[true, true, true, true, true, true, false, false, false, false, false, false, false, false, false, false] #[true, false, true, true, true, true, true, false, false, false, false, false, false, false, false, false] #[true, false, true, true, true, true, false, false, false, false, false, false, true, false, false, false] rfl rfl rfl rfl rfl rfl (three_of HT_.out (by kernel_rfl)) (by decide) (by decide) (by decide) (fun K hK => ?_) (fun K hK => ?_) (fun K hK => ?_)
                     ·
                      refine goes_ Try.func13 (by kernel_rfl) rfl #[.agg #[.slice Ao41 x714000_3.length co41, .int .i64 x714001_3]] (by rfl) rfl rfl (by (try simp only [List.map_toArray, List.map_cons, List.map_nil]); first | done | rfl | (simp only [List.length_drop, List.length_take]; rfl)) ?_
                      with_reducible refine (midrangeref04_Own.calls _ _ x714000_3 x714001_3 t714 t717 _ ?side1 ?side2 A36.out).mono ?_
                      (case side1 => exact pc_ (Kd.R_reads' HO_714000.out).2.2)
                      (case side2 => exact (Kd.R_reads' HO_714000.out).2.1)
                      rintro e w43 ⟨v715, rfl, ho0, hb⟩
                      refine ⟨_, rfl, ?_⟩
                      replace HO_5 := Aside0.mk (Kd.R_below (rk_ HO_5) hb)
                      replace HO_6 := Aside0.mk (Kd.R_below (rk_ HO_6) hb)
                      have HO716 := Aside0.mk (Kd.R_lower (Kd.R_new' ho0 (Kd.R_lt (rk_ HO_714000))) (below_size (pb_ HB)))
                      replace HO_714000 := Aside0.mk (Kd.R_elder' (rk_ HO_714000) (Kd.R_base ho0) hb)
                      replace BK700 := kb_ BK700 hb
                      replace BK713 := kb_ BK713 hb
                      replace HB := sb_ HB hb
                      (try clear hb)
                      (try clear hb2)
                      (try clear hk)
                      (try clear hi)
                      (try clear ho0)
                      refine hK.out _ _ ⟨cy_ BK713 0, cy_ BK713 1, (pw_cell_below HB.out hw718_0), (pw_cell_below HB.out hw718_1), (pw_cell_below HB.out hw718_2), (pw_cell_below HB.out hw718_3), (pw_cell_below HB.out hw718_4)⟩ (fun hHeld => ?_)
                      clear hK K
                      refine nn_ 60 ?_
                      exact norm_ pa_ (hJ1 (v715) _ ⟨hHeld, (by (with_reducible repeat (first | apply Kd.R_alloc | apply Kd.R_drewN | apply Kd.R_drew)); exact Kd.R_mono HO716.out (fun _ hk => hk.2)), (rk_ HO_5), (rk_ HO_6), (by (with_reducible repeat (first | apply Kd.R_alloc | apply Kd.R_drewN | apply Kd.R_drew)); exact Kd.R_mono HO_714000.out (fun _ hk => hk.2)), (pk_ BK700), (pk_ BK713), (pb_ HB)⟩)
                     ·
                      refine Kd.R_lit_step k66 _ 66 ?hg (N := 65) ?hd (xs := ([(⟨(rd_T66 l1 x9_3).f0, (rd_T66 l1 x9_3).f1, (rd_T66 l1 x9_3).f2, (rd_T66 l1 x9_3).f3, (rd_T66 l1 x9_3).f4⟩ : S66)] : List (S66))) (inner := [.int .i64 ((rd_T66 l1 x9_3).f0), .int .i64 ((rd_T66 l1 x9_3).f1), .int .i64 ((rd_T66 l1 x9_3).f2), .int .i64 ((rd_T66 l1 x9_3).f3), .string ((rd_T66 l1 x9_3).f4)]) (ok := fun _ => True) (okp := fun _ => True) ?hr ?hp (fun _ hk => hk) trivial (Below.refl _ _) (Nat.le_refl _) (by simp) ?_; (case hd => rfl); (case hg => rfl); (case hr => first | (go_simp; done) | (go_simp; rfl)); (case hp => exact (Reps.c5 (show Kd.M k66 _ _ _ (⟨(rd_T66 l1 x9_3).f0, (rd_T66 l1 x9_3).f1, (rd_T66 l1 x9_3).f2, (rd_T66 l1 x9_3).f3, (rd_T66 l1 x9_3).f4⟩ : S66) [.int .i64 ((rd_T66 l1 x9_3).f0), .int .i64 ((rd_T66 l1 x9_3).f1), .int .i64 ((rd_T66 l1 x9_3).f2), .int .i64 ((rd_T66 l1 x9_3).f3), .string ((rd_T66 l1 x9_3).f4)] from (k66_mkM _ _ _ (⟨(rd_T66 l1 x9_3).f0, (rd_T66 l1 x9_3).f1, (rd_T66 l1 x9_3).f2, (rd_T66 l1 x9_3).f3, (rd_T66 l1 x9_3).f4⟩ : S66) )) (Reps.none _ _)))
                      intro v720 w43 ho44 hb hg_ hnew_
                      clear hg_ hnew_
                      (first | rw [← Ny719.out] at ho44 | (simp only [Int.reduceToNat] at ho44; rw [← Ny719.out] at ho44))
                      replace HO_5 := Aside0.mk (Kd.R_below (rk_ HO_5) hb)
                      replace HO_6 := Aside0.mk (Kd.R_below (rk_ HO_6) hb)
                      replace HO_714000 := Aside0.mk (Kd.R_below (rk_ HO_714000) hb)
                      have HO721 := Aside0.mk (Kd.R_lower ho44 (below_size (pb_ HB)))
                      replace BK700 := kb_ BK700 hb
                      replace BK713 := kb_ BK713 hb
                      replace HB := sb_ HB hb
                      clear hb ho44
                      refine hK.out _ _ ⟨cy_ BK713 0, cy_ BK713 1, (pw_cell_below HB.out hw718_0), (pw_cell_below HB.out hw718_1), (pw_cell_below HB.out hw718_2), (pw_cell_below HB.out hw718_3), (pw_cell_below HB.out hw718_4)⟩ (fun hHeld => ?_)
                      clear hK K
                      refine nn_ 65 ?_
                      exact norm_ pa_ (hJ6 (v720) _ ⟨hHeld, (rk_ HO721), (rk_ HO_5), (rk_ HO_6), (rk_ HO_714000), (pk_ BK700), (pk_ BK713), (pb_ HB)⟩)
                     skip
                     refine box_step ?hg (N := 10) ?hd (cs := #[.slice none 0 0, .int .i64 0]) (t := 24) ?hr ?_; (case hd => rfl); (case hg => rfl); (case hr => first | (go_simp; done) | (go_simp; rfl))
                     intro gb728 hg w43 hbox hb
                     replace HO_5 := Aside0.mk (Kd.R_below (rk_ HO_5) hb)
                     replace HO_6 := Aside0.mk (Kd.R_below (rk_ HO_6) hb)
                     replace HO_714000 := Aside0.mk (Kd.R_below (rk_ HO_714000) hb)
                     have BK728 := Aside0.mk (hbox)
                     have GW728 := gw_ hg HB
                     have GE728 := gw_ hg HB
                     replace HB := sb_ HB hb
                     have NB700_728 := nl_ hg BK700
                     have NB728_700 := ng_ hg BK700
                     replace BK700 := kb_ BK700 hb
                     have NB713_728 := nl_ hg BK713
                     have NB728_713 := ng_ hg BK713
                     replace BK713 := kb_ BK713 hb
                     clear hb hbox hg
                     refine hK.out _ _ ⟨cy_ BK713 0, cy_ BK713 1, (pw_cell_below HB.out hw718_0), (pw_cell_below HB.out hw718_1), (pw_cell_below HB.out hw718_2), (pw_cell_below HB.out hw718_3), (pw_cell_below HB.out hw718_4)⟩ (fun hHeld => ?_)
                     clear hK K
                     refine nn_ 10 ?_
                     exact norm_ pa_ (hJ12 (gb728) _ ⟨hHeld, (rk_ HO_5), (rk_ HO_6), (rk_ HO_714000), (pk_ BK700), (pk_ BK713), (pk_ BK728), GW728.out, GE728.out, NB700_728.out, NB728_700.out, NB713_728.out, NB728_713.out, (pb_ HB)⟩)
                    skip
                    clear HO_5 HO_6 HO_714000 BK700 BK713 HB
                    rintro gb728 w44 ⟨hHeld, HO_5, HO_6, HO_714000, BK700, BK713, BK728, GW728, GE728, NB700_728, NB728_700, NB713_728, NB728_713, HB⟩
                    try dsimp only at hHeld HO_5 HO_6 HO_714000 BK700 BK713 BK728 GW728 GE728 NB700_728 NB728_700 NB713_728 NB728_713 HB
                    replace HO_5 := Aside0.mk HO_5
                    replace HO_6 := Aside0.mk HO_6
                    replace HO_714000 := Aside0.mk HO_714000
                    replace BK700 := Aside0.mk BK700
                    replace BK713 := Aside0.mk BK713
                    replace BK728 := Aside0.mk BK728
                    replace GW728 := Aside0.mk GW728
                    replace GE728 := Aside0.mk GE728
                    replace NB700_728 := Aside0.mk NB700_728
                    replace NB728_700 := Aside0.mk NB728_700
                    replace NB713_728 := Aside0.mk NB713_728
                    replace NB728_713 := Aside0.mk NB728_713
                    replace HB := Aside0.mk HB
                    refine nm_ ?_
                    refine two_ (i := 1) (j := 6) (Ni := some 60) (Nj := some 65) #[true, true, true, true, true, true, false, false, false, false, false, false, true, false, false, false] #[true, false, true, true, true, true, true, false, false, false, false, false, true, false, false, false] rfl rfl rfl rfl (two_of HT_.out (by kernel_rfl)) (by decide) (by decide) (fun K hK => ?_) (fun K hK => ?_)
                    ·
                     refine goes_ Try.func13 (by kernel_rfl) rfl #[.agg #[.slice Ao41 x714000_3.length co41, .int .i64 x714001_3]] (by rfl) rfl rfl (by (try simp only [List.map_toArray, List.map_cons, List.map_nil]); first | done | rfl | (simp only [List.length_drop, List.length_take]; rfl)) ?_
                     with_reducible refine (midrangeref04_Own.calls _ _ x714000_3 x714001_3 t714 t717 _ ?side1 ?side2 A36.out).mono ?_
                     (case side1 => exact pc_ (Kd.R_reads' HO_714000.out).2.2)
                     (case side2 => exact (Kd.R_reads' HO_714000.out).2.1)
                     rintro e w45 ⟨v715, rfl, ho0, hb⟩
                     refine ⟨_, rfl, ?_⟩
                     replace HO_5 := Aside0.mk (Kd.R_below (rk_ HO_5) hb)
                     replace HO_6 := Aside0.mk (Kd.R_below (rk_ HO_6) hb)
                     have HO716 := Aside0.mk (Kd.R_lower (Kd.R_new' ho0 (Kd.R_lt (rk_ HO_714000))) (below_size (pb_ HB)))
                     replace HO_714000 := Aside0.mk (Kd.R_elder' (rk_ HO_714000) (Kd.R_base ho0) hb)
                     replace BK700 := kb_ BK700 hb
                     replace BK713 := kb_ BK713 hb
                     replace BK728 := kb_ BK728 hb
                     replace HB := sb_ HB hb
                     (try clear hb)
                     (try clear hb2)
                     (try clear hk)
                     (try clear hi)
                     (try clear ho0)
                     refine hK.out _ _ ⟨cy_ BK713 0, cy_ BK713 1, (pw_cell_below HB.out hw718_0), (pw_cell_below HB.out hw718_1), (pw_cell_below HB.out hw718_2), (pw_cell_below HB.out hw718_3), (pw_cell_below HB.out hw718_4)⟩ (fun hHeld => ?_)
                     clear hK K
                     refine nn_ 60 ?_
                     exact norm_ pa_ (hJ1_12 (v715, gb728) _ ⟨hHeld, (by (with_reducible repeat (first | apply Kd.R_alloc | apply Kd.R_drewN | apply Kd.R_drew)); exact Kd.R_mono HO716.out (fun _ hk => hk.2)), (rk_ HO_5), (rk_ HO_6), (by (with_reducible repeat (first | apply Kd.R_alloc | apply Kd.R_drewN | apply Kd.R_drew)); exact Kd.R_mono HO_714000.out (fun _ hk => hk.2)), (pk_ BK700), (pk_ BK713), (pk_ BK728), GW728.out, GE728.out, NB700_728.out, NB728_700.out, NB713_728.out, NB728_713.out, (pb_ HB)⟩)
                    skip
                    refine Kd.R_lit_step k66 _ 66 ?hg (N := 65) ?hd (xs := ([(⟨(rd_T66 l1 x9_3).f0, (rd_T66 l1 x9_3).f1, (rd_T66 l1 x9_3).f2, (rd_T66 l1 x9_3).f3, (rd_T66 l1 x9_3).f4⟩ : S66)] : List (S66))) (inner := [.int .i64 ((rd_T66 l1 x9_3).f0), .int .i64 ((rd_T66 l1 x9_3).f1), .int .i64 ((rd_T66 l1 x9_3).f2), .int .i64 ((rd_T66 l1 x9_3).f3), .string ((rd_T66 l1 x9_3).f4)]) (ok := fun _ => True) (okp := fun _ => True) ?hr ?hp (fun _ hk => hk) trivial (Below.refl _ _) (Nat.le_refl _) (by simp) ?_; (case hd => rfl); (case hg => rfl); (case hr => first | (go_simp; done) | (go_simp; rfl)); (case hp => exact (Reps.c5 (show Kd.M k66 _ _ _ (⟨(rd_T66 l1 x9_3).f0, (rd_T66 l1 x9_3).f1, (rd_T66 l1 x9_3).f2, (rd_T66 l1 x9_3).f3, (rd_T66 l1 x9_3).f4⟩ : S66) [.int .i64 ((rd_T66 l1 x9_3).f0), .int .i64 ((rd_T66 l1 x9_3).f1), .int .i64 ((rd_T66 l1 x9_3).f2), .int .i64 ((rd_T66 l1 x9_3).f3), .string ((rd_T66 l1 x9_3).f4)] from (k66_mkM _ _ _ (⟨(rd_T66 l1 x9_3).f0, (rd_T66 l1 x9_3).f1, (rd_T66 l1 x9_3).f2, (rd_T66 l1 x9_3).f3, (rd_T66 l1 x9_3).f4⟩ : S66) )) (Reps.none _ _)))
                    intro v720 w45 ho46 hb hg_ hnew_
                    clear hg_ hnew_
                    (first | rw [← Ny719.out] at ho46 | (simp only [Int.reduceToNat] at ho46; rw [← Ny719.out] at ho46))
                    replace HO_5 := Aside0.mk (Kd.R_below (rk_ HO_5) hb)
                    replace HO_6 := Aside0.mk (Kd.R_below (rk_ HO_6) hb)
                    replace HO_714000 := Aside0.mk (Kd.R_below (rk_ HO_714000) hb)
                    have HO721 := Aside0.mk (Kd.R_lower ho46 (below_size (pb_ HB)))
                    replace BK700 := kb_ BK700 hb
                    replace BK713 := kb_ BK713 hb
                    replace BK728 := kb_ BK728 hb
                    replace HB := sb_ HB hb
                    clear hb ho46
                    refine hK.out _ _ ⟨cy_ BK713 0, cy_ BK713 1, (pw_cell_below HB.out hw718_0), (pw_cell_below HB.out hw718_1), (pw_cell_below HB.out hw718_2), (pw_cell_below HB.out hw718_3), (pw_cell_below HB.out hw718_4)⟩ (fun hHeld => ?_)
                    clear hK K
                    refine nn_ 65 ?_
                    exact norm_ pa_ (hJ6_12 (v720, gb728) _ ⟨hHeld, (rk_ HO721), (rk_ HO_5), (rk_ HO_6), (rk_ HO_714000), (pk_ BK700), (pk_ BK713), (pk_ BK728), GW728.out, GE728.out, NB700_728.out, NB728_700.out, NB713_728.out, NB728_713.out, (pb_ HB)⟩)
                   skip
                   clear HO_5 HO_6 HO_714000 BK700 BK713 HB
                   rintro v720 w45 ⟨hHeld, HO721, HO_5, HO_6, HO_714000, BK700, BK713, HB⟩
                   try dsimp only at hHeld HO721 HO_5 HO_6 HO_714000 BK700 BK713 HB
                   replace HO721 := Aside0.mk HO721
                   replace HO_5 := Aside0.mk HO_5
                   replace HO_6 := Aside0.mk HO_6
                   replace HO_714000 := Aside0.mk HO_714000
                   replace BK700 := Aside0.mk BK700
                   replace BK713 := Aside0.mk BK713
                   replace HB := Aside0.mk HB
                   refine nm_ ?_
                   refine two_ (i := 1) (j := 12) (Ni := some 60) (Nj := some 10) #[true, true, true, true, true, true, true, false, false, false, false, false, false, false, false, false] #[true, false, true, true, true, true, true, false, false, false, false, false, true, false, false, false] rfl rfl rfl rfl (two_of HT_.out (by kernel_rfl)) (by decide) (by decide) (fun K hK => ?_) (fun K hK => ?_)
                   ·
                    refine goes_ Try.func13 (by kernel_rfl) rfl #[.agg #[.slice Ao41 x714000_3.length co41, .int .i64 x714001_3]] (by rfl) rfl rfl (by (try simp only [List.map_toArray, List.map_cons, List.map_nil]); first | done | rfl | (simp only [List.length_drop, List.length_take]; rfl)) ?_
                    with_reducible refine (midrangeref04_Own.calls _ _ x714000_3 x714001_3 t714 t717 _ ?side1 ?side2 A36.out).mono ?_
                    (case side1 => exact pc_ (Kd.R_reads' HO_714000.out).2.2)
                    (case side2 => exact (Kd.R_reads' HO_714000.out).2.1)
                    rintro e w46 ⟨v715, rfl, ho0, hb⟩
                    refine ⟨_, rfl, ?_⟩
                    replace HO_5 := Aside0.mk (Kd.R_below (rk_ HO_5) hb)
                    replace HO_6 := Aside0.mk (Kd.R_below (rk_ HO_6) hb)
                    replace HO721 := Aside0.mk (Kd.R_below (rk_ HO721) hb)
                    have HO716 := Aside0.mk (Kd.R_lower (Kd.R_new' ho0 (Kd.R_lt (rk_ HO_714000))) (below_size (pb_ HB)))
                    replace HO_714000 := Aside0.mk (Kd.R_elder' (rk_ HO_714000) (Kd.R_base ho0) hb)
                    replace BK700 := kb_ BK700 hb
                    replace BK713 := kb_ BK713 hb
                    replace HB := sb_ HB hb
                    (try clear hb)
                    (try clear hb2)
                    (try clear hk)
                    (try clear hi)
                    (try clear ho0)
                    refine hK.out _ _ ⟨cy_ BK713 0, cy_ BK713 1, (pw_cell_below HB.out hw718_0), (pw_cell_below HB.out hw718_1), (pw_cell_below HB.out hw718_2), (pw_cell_below HB.out hw718_3), (pw_cell_below HB.out hw718_4)⟩ (fun hHeld => ?_)
                    clear hK K
                    refine nn_ 60 ?_
                    exact norm_ pa_ (hJ1_6 (v715, v720) _ ⟨hHeld, (by (with_reducible repeat (first | apply Kd.R_alloc | apply Kd.R_drewN | apply Kd.R_drew)); exact Kd.R_mono HO716.out (fun _ hk => hk.2)), (rk_ HO721), (rk_ HO_5), (rk_ HO_6), (by (with_reducible repeat (first | apply Kd.R_alloc | apply Kd.R_drewN | apply Kd.R_drew)); exact Kd.R_mono HO_714000.out (fun _ hk => hk.2)), (pk_ BK700), (pk_ BK713), (pb_ HB)⟩)
                   skip
                   refine box_step ?hg (N := 10) ?hd (cs := #[.slice none 0 0, .int .i64 0]) (t := 24) ?hr ?_; (case hd => rfl); (case hg => rfl); (case hr => first | (go_simp; done) | (go_simp; rfl))
                   intro gb728 hg w46 hbox hb
                   replace HO_5 := Aside0.mk (Kd.R_below (rk_ HO_5) hb)
                   replace HO_6 := Aside0.mk (Kd.R_below (rk_ HO_6) hb)
                   replace HO_714000 := Aside0.mk (Kd.R_below (rk_ HO_714000) hb)
                   replace HO721 := Aside0.mk (Kd.R_below (rk_ HO721) hb)
                   have BK728 := Aside0.mk (hbox)
                   have GW728 := gw_ hg HB
                   have GE728 := gw_ hg HB
                   replace HB := sb_ HB hb
                   have NB700_728 := nl_ hg BK700
                   have NB728_700 := ng_ hg BK700
                   replace BK700 := kb_ BK700 hb
                   have NB713_728 := nl_ hg BK713
                   have NB728_713 := ng_ hg BK713
                   replace BK713 := kb_ BK713 hb
                   clear hb hbox hg
                   refine hK.out _ _ ⟨cy_ BK713 0, cy_ BK713 1, (pw_cell_below HB.out hw718_0), (pw_cell_below HB.out hw718_1), (pw_cell_below HB.out hw718_2), (pw_cell_below HB.out hw718_3), (pw_cell_below HB.out hw718_4)⟩ (fun hHeld => ?_)
                   clear hK K
                   refine nn_ 10 ?_
                   exact norm_ pa_ (hJ6_12 (v720, gb728) _ ⟨hHeld, (rk_ HO721), (rk_ HO_5), (rk_ HO_6), (rk_ HO_714000), (pk_ BK700), (pk_ BK713), (pk_ BK728), GW728.out, GE728.out, NB700_728.out, NB728_700.out, NB713_728.out, NB728_713.out, (pb_ HB)⟩)
                  skip
                  clear HO_5 HO_6 HO_714000 BK700 BK713 HB
                  rintro v715 w44 ⟨hHeld, HO716, HO_5, HO_6, HO_714000, BK700, BK713, HB⟩
                  try dsimp only at hHeld HO716 HO_5 HO_6 HO_714000 BK700 BK713 HB
                  replace HO716 := Aside0.mk HO716
                  replace HO_5 := Aside0.mk HO_5
                  replace HO_6 := Aside0.mk HO_6
                  replace HO_714000 := Aside0.mk HO_714000
                  replace BK700 := Aside0.mk BK700
                  replace BK713 := Aside0.mk BK713
                  replace HB := Aside0.mk HB
                  refine nm_ ?_
                  refine two_ (i := 6) (j := 12) (Ni := some 65) (Nj := some 10) #[true, true, true, true, true, true, true, false, false, false, false, false, false, false, false, false] #[true, true, true, true, true, true, false, false, false, false, false, false, true, false, false, false] rfl rfl rfl rfl (two_of HT_.out (by kernel_rfl)) (by decide) (by decide) (fun K hK => ?_) (fun K hK => ?_)
                  ·
                   refine Kd.R_lit_step k66 _ 66 ?hg (N := 65) ?hd (xs := ([(⟨(rd_T66 l1 x9_3).f0, (rd_T66 l1 x9_3).f1, (rd_T66 l1 x9_3).f2, (rd_T66 l1 x9_3).f3, (rd_T66 l1 x9_3).f4⟩ : S66)] : List (S66))) (inner := [.int .i64 ((rd_T66 l1 x9_3).f0), .int .i64 ((rd_T66 l1 x9_3).f1), .int .i64 ((rd_T66 l1 x9_3).f2), .int .i64 ((rd_T66 l1 x9_3).f3), .string ((rd_T66 l1 x9_3).f4)]) (ok := fun _ => True) (okp := fun _ => True) ?hr ?hp (fun _ hk => hk) trivial (Below.refl _ _) (Nat.le_refl _) (by simp) ?_; (case hd => rfl); (case hg => rfl); (case hr => first | (go_simp; done) | (go_simp; rfl)); (case hp => exact (Reps.c5 (show Kd.M k66 _ _ _ (⟨(rd_T66 l1 x9_3).f0, (rd_T66 l1 x9_3).f1, (rd_T66 l1 x9_3).f2, (rd_T66 l1 x9_3).f3, (rd_T66 l1 x9_3).f4⟩ : S66) [.int .i64 ((rd_T66 l1 x9_3).f0), .int .i64 ((rd_T66 l1 x9_3).f1), .int .i64 ((rd_T66 l1 x9_3).f2), .int .i64 ((rd_T66 l1 x9_3).f3), .string ((rd_T66 l1 x9_3).f4)] from (k66_mkM _ _ _ (⟨(rd_T66 l1 x9_3).f0, (rd_T66 l1 x9_3).f1, (rd_T66 l1 x9_3).f2, (rd_T66 l1 x9_3).f3, (rd_T66 l1 x9_3).f4⟩ : S66) )) (Reps.none _ _)))
                   intro v720 w45 ho46 hb hg_ hnew_
                   clear hg_ hnew_
                   (first | rw [← Ny719.out] at ho46 | (simp only [Int.reduceToNat] at ho46; rw [← Ny719.out] at ho46))
                   replace HO_5 := Aside0.mk (Kd.R_below (rk_ HO_5) hb)
                   replace HO_6 := Aside0.mk (Kd.R_below (rk_ HO_6) hb)
                   replace HO_714000 := Aside0.mk (Kd.R_below (rk_ HO_714000) hb)
                   replace HO716 := Aside0.mk (Kd.R_below (rk_ HO716) hb)
                   have HO721 := Aside0.mk (Kd.R_lower ho46 (below_size (pb_ HB)))
                   replace BK700 := kb_ BK700 hb
                   replace BK713 := kb_ BK713 hb
                   replace HB := sb_ HB hb
                   clear hb ho46
                   refine hK.out _ _ ⟨cy_ BK713 0, cy_ BK713 1, (pw_cell_below HB.out hw718_0), (pw_cell_below HB.out hw718_1), (pw_cell_below HB.out hw718_2), (pw_cell_below HB.out hw718_3), (pw_cell_below HB.out hw718_4)⟩ (fun hHeld => ?_)
                   clear hK K
                   refine nn_ 65 ?_
                   exact norm_ pa_ (hJ1_6 (v715, v720) _ ⟨hHeld, (rk_ HO716), (rk_ HO721), (rk_ HO_5), (rk_ HO_6), (rk_ HO_714000), (pk_ BK700), (pk_ BK713), (pb_ HB)⟩)
                  skip
                  refine box_step ?hg (N := 10) ?hd (cs := #[.slice none 0 0, .int .i64 0]) (t := 24) ?hr ?_; (case hd => rfl); (case hg => rfl); (case hr => first | (go_simp; done) | (go_simp; rfl))
                  intro gb728 hg w45 hbox hb
                  replace HO_5 := Aside0.mk (Kd.R_below (rk_ HO_5) hb)
                  replace HO_6 := Aside0.mk (Kd.R_below (rk_ HO_6) hb)
                  replace HO_714000 := Aside0.mk (Kd.R_below (rk_ HO_714000) hb)
                  replace HO716 := Aside0.mk (Kd.R_below (rk_ HO716) hb)
                  have BK728 := Aside0.mk (hbox)
                  have GW728 := gw_ hg HB
                  have GE728 := gw_ hg HB
                  replace HB := sb_ HB hb
                  have NB700_728 := nl_ hg BK700
                  have NB728_700 := ng_ hg BK700
                  replace BK700 := kb_ BK700 hb
                  have NB713_728 := nl_ hg BK713
                  have NB728_713 := ng_ hg BK713
                  replace BK713 := kb_ BK713 hb
                  clear hb hbox hg
                  refine hK.out _ _ ⟨cy_ BK713 0, cy_ BK713 1, (pw_cell_below HB.out hw718_0), (pw_cell_below HB.out hw718_1), (pw_cell_below HB.out hw718_2), (pw_cell_below HB.out hw718_3), (pw_cell_below HB.out hw718_4)⟩ (fun hHeld => ?_)
                  clear hK K
                  refine nn_ 10 ?_
                  exact norm_ pa_ (hJ1_12 (v715, gb728) _ ⟨hHeld, (rk_ HO716), (rk_ HO_5), (rk_ HO_6), (rk_ HO_714000), (pk_ BK700), (pk_ BK713), (pk_ BK728), GW728.out, GE728.out, NB700_728.out, NB728_700.out, NB713_728.out, NB728_713.out, (pb_ HB)⟩)
                 skip
                 clear HO_5 HO_6 HO_714000 BK700 BK713 HB
                 rintro ⟨v720, gb728⟩ w46 ⟨hHeld, HO721, HO_5, HO_6, HO_714000, BK700, BK713, BK728, GW728, GE728, NB700_728, NB728_700, NB713_728, NB728_713, HB⟩
                 try dsimp only at hHeld HO721 HO_5 HO_6 HO_714000 BK700 BK713 BK728 GW728 GE728 NB700_728 NB728_700 NB713_728 NB728_713 HB
                 replace HO721 := Aside0.mk HO721
                 replace HO_5 := Aside0.mk HO_5
                 replace HO_6 := Aside0.mk HO_6
                 replace HO_714000 := Aside0.mk HO_714000
                 replace BK700 := Aside0.mk BK700
                 replace BK713 := Aside0.mk BK713
                 replace BK728 := Aside0.mk BK728
                 replace GW728 := Aside0.mk GW728
                 replace GE728 := Aside0.mk GE728
                 replace NB700_728 := Aside0.mk NB700_728
                 replace NB728_700 := Aside0.mk NB728_700
                 replace NB713_728 := Aside0.mk NB713_728
                 replace NB728_713 := Aside0.mk NB728_713
                 replace HB := Aside0.mk HB
                 refine nm_ ?_
                 refine one_ (i := 1) (N := some 60) #[true, true, true, true, true, true, true, false, false, false, false, false, true, false, false, false] rfl rfl (one_of HT_.out (by kernel_rfl)) (by decide) (fun K hK => ?_)
                 refine goes_ Try.func13 (by kernel_rfl) rfl #[.agg #[.slice Ao41 x714000_3.length co41, .int .i64 x714001_3]] (by rfl) rfl rfl (by (try simp only [List.map_toArray, List.map_cons, List.map_nil]); first | done | rfl | (simp only [List.length_drop, List.length_take]; rfl)) ?_
                 with_reducible refine (midrangeref04_Own.calls _ _ x714000_3 x714001_3 t714 t717 _ ?side1 ?side2 A36.out).mono ?_
                 (case side1 => exact pc_ (Kd.R_reads' HO_714000.out).2.2)
                 (case side2 => exact (Kd.R_reads' HO_714000.out).2.1)
                 rintro e w47 ⟨v715, rfl, ho0, hb⟩
                 refine ⟨_, rfl, ?_⟩
                 replace HO_5 := Aside0.mk (Kd.R_below (rk_ HO_5) hb)
                 replace HO_6 := Aside0.mk (Kd.R_below (rk_ HO_6) hb)
                 replace HO721 := Aside0.mk (Kd.R_below (rk_ HO721) hb)
                 have HO716 := Aside0.mk (Kd.R_lower (Kd.R_new' ho0 (Kd.R_lt (rk_ HO_714000))) (below_size (pb_ HB)))
                 replace HO_714000 := Aside0.mk (Kd.R_elder' (rk_ HO_714000) (Kd.R_base ho0) hb)
                 replace BK700 := kb_ BK700 hb
                 replace BK713 := kb_ BK713 hb
                 replace BK728 := kb_ BK728 hb
                 replace HB := sb_ HB hb
                 (try clear hb)
                 (try clear hb2)
                 (try clear hk)
                 (try clear hi)
                 (try clear ho0)
                 refine hK.out _ _ ⟨cy_ BK713 0, cy_ BK713 1, (pw_cell_below HB.out hw718_0), (pw_cell_below HB.out hw718_1), (pw_cell_below HB.out hw718_2), (pw_cell_below HB.out hw718_3), (pw_cell_below HB.out hw718_4)⟩ (fun hHeld => ?_)
                 clear hK K
                 refine nn_ 60 ?_
                 exact norm_ pa_ (hJ1_6_12 (v715, v720, gb728) _ ⟨hHeld, (by (with_reducible repeat (first | apply Kd.R_alloc | apply Kd.R_drewN | apply Kd.R_drew)); exact Kd.R_mono HO716.out (fun _ hk => hk.2)), (rk_ HO721), (rk_ HO_5), (rk_ HO_6), (by (with_reducible repeat (first | apply Kd.R_alloc | apply Kd.R_drewN | apply Kd.R_drew)); exact Kd.R_mono HO_714000.out (fun _ hk => hk.2)), (pk_ BK700), (pk_ BK713), (pk_ BK728), GW728.out, GE728.out, NB700_728.out, NB728_700.out, NB713_728.out, NB728_713.out, (pb_ HB)⟩)
                skip
                clear HO_5 HO_6 HO_714000 BK700 BK713 HB
                rintro ⟨v715, gb728⟩ w45 ⟨hHeld, HO716, HO_5, HO_6, HO_714000, BK700, BK713, BK728, GW728, GE728, NB700_728, NB728_700, NB713_728, NB728_713, HB⟩
                try dsimp only at hHeld HO716 HO_5 HO_6 HO_714000 BK700 BK713 BK728 GW728 GE728 NB700_728 NB728_700 NB713_728 NB728_713 HB
                replace HO716 := Aside0.mk HO716
                replace HO_5 := Aside0.mk HO_5
                replace HO_6 := Aside0.mk HO_6
                replace HO_714000 := Aside0.mk HO_714000
                replace BK700 := Aside0.mk BK700
                replace BK713 := Aside0.mk BK713
                replace BK728 := Aside0.mk BK728
                replace GW728 := Aside0.mk GW728
                replace GE728 := Aside0.mk GE728
                replace NB700_728 := Aside0.mk NB700_728
                replace NB728_700 := Aside0.mk NB728_700
                replace NB713_728 := Aside0.mk NB713_728
                replace NB728_713 := Aside0.mk NB728_713
                replace HB := Aside0.mk HB
                refine nm_ ?_
                refine one_ (i := 6) (N := some 65) #[true, true, true, true, true, true, true, false, false, false, false, false, true, false, false, false] rfl rfl (one_of HT_.out (by kernel_rfl)) (by decide) (fun K hK => ?_)
                refine Kd.R_lit_step k66 _ 66 ?hg (N := 65) ?hd (xs := ([(⟨(rd_T66 l1 x9_3).f0, (rd_T66 l1 x9_3).f1, (rd_T66 l1 x9_3).f2, (rd_T66 l1 x9_3).f3, (rd_T66 l1 x9_3).f4⟩ : S66)] : List (S66))) (inner := [.int .i64 ((rd_T66 l1 x9_3).f0), .int .i64 ((rd_T66 l1 x9_3).f1), .int .i64 ((rd_T66 l1 x9_3).f2), .int .i64 ((rd_T66 l1 x9_3).f3), .string ((rd_T66 l1 x9_3).f4)]) (ok := fun _ => True) (okp := fun _ => True) ?hr ?hp (fun _ hk => hk) trivial (Below.refl _ _) (Nat.le_refl _) (by simp) ?_; (case hd => rfl); (case hg => rfl); (case hr => first | (go_simp; done) | (go_simp; rfl)); (case hp => exact (Reps.c5 (show Kd.M k66 _ _ _ (⟨(rd_T66 l1 x9_3).f0, (rd_T66 l1 x9_3).f1, (rd_T66 l1 x9_3).f2, (rd_T66 l1 x9_3).f3, (rd_T66 l1 x9_3).f4⟩ : S66) [.int .i64 ((rd_T66 l1 x9_3).f0), .int .i64 ((rd_T66 l1 x9_3).f1), .int .i64 ((rd_T66 l1 x9_3).f2), .int .i64 ((rd_T66 l1 x9_3).f3), .string ((rd_T66 l1 x9_3).f4)] from (k66_mkM _ _ _ (⟨(rd_T66 l1 x9_3).f0, (rd_T66 l1 x9_3).f1, (rd_T66 l1 x9_3).f2, (rd_T66 l1 x9_3).f3, (rd_T66 l1 x9_3).f4⟩ : S66) )) (Reps.none _ _)))
                intro v720 w46 ho47 hb hg_ hnew_
                clear hg_ hnew_
                (first | rw [← Ny719.out] at ho47 | (simp only [Int.reduceToNat] at ho47; rw [← Ny719.out] at ho47))
                replace HO_5 := Aside0.mk (Kd.R_below (rk_ HO_5) hb)
                replace HO_6 := Aside0.mk (Kd.R_below (rk_ HO_6) hb)
                replace HO_714000 := Aside0.mk (Kd.R_below (rk_ HO_714000) hb)
                replace HO716 := Aside0.mk (Kd.R_below (rk_ HO716) hb)
                have HO721 := Aside0.mk (Kd.R_lower ho47 (below_size (pb_ HB)))
                replace BK700 := kb_ BK700 hb
                replace BK713 := kb_ BK713 hb
                replace BK728 := kb_ BK728 hb
                replace HB := sb_ HB hb
                clear hb ho47
                refine hK.out _ _ ⟨cy_ BK713 0, cy_ BK713 1, (pw_cell_below HB.out hw718_0), (pw_cell_below HB.out hw718_1), (pw_cell_below HB.out hw718_2), (pw_cell_below HB.out hw718_3), (pw_cell_below HB.out hw718_4)⟩ (fun hHeld => ?_)
                clear hK K
                refine nn_ 65 ?_
                exact norm_ pa_ (hJ1_6_12 (v715, v720, gb728) _ ⟨hHeld, (rk_ HO716), (rk_ HO721), (rk_ HO_5), (rk_ HO_6), (rk_ HO_714000), (pk_ BK700), (pk_ BK713), (pk_ BK728), GW728.out, GE728.out, NB700_728.out, NB728_700.out, NB713_728.out, NB728_713.out, (pb_ HB)⟩)
               skip
               clear HO_5 HO_6 HO_714000 BK700 BK713 HB
               rintro ⟨v715, v720⟩ w46 ⟨hHeld, HO716, HO721, HO_5, HO_6, HO_714000, BK700, BK713, HB⟩
               try dsimp only at hHeld HO716 HO721 HO_5 HO_6 HO_714000 BK700 BK713 HB
               replace HO716 := Aside0.mk HO716
               replace HO721 := Aside0.mk HO721
               replace HO_5 := Aside0.mk HO_5
               replace HO_6 := Aside0.mk HO_6
               replace HO_714000 := Aside0.mk HO_714000
               replace BK700 := Aside0.mk BK700
               replace BK713 := Aside0.mk BK713
               replace HB := Aside0.mk HB
               obtain ⟨Ao47, co47, eo47⟩ := Kd.R_slice HO716.out
               (first | subst eo47 | (injection eo47 with f1_ f2_ f3_; have f4_ := f1_.symm; have f5_ := f3_.symm; clear f1_ f2_ f3_; subst f4_; subst f5_))
               obtain ⟨Ao48, co48, eo48⟩ := Kd.R_slice HO721.out
               (first | subst eo48 | (injection eo48 with f1_ f2_ f3_; have f4_ := f1_.symm; have f5_ := f3_.symm; clear f1_ f2_ f3_; subst f4_; subst f5_))
               refine nm_ ?_
               refine two_ (i := 7) (j := 12) (Ni := some 66) (Nj := some 10) #[true, true, true, true, true, true, true, true, false, false, false, false, false, false, false, false] #[true, true, true, true, true, true, true, false, false, false, false, false, true, false, false, false] rfl rfl rfl rfl (two_of HT_.out (by kernel_rfl)) (by decide) (by decide) (fun K hK => ?_) (fun K hK => ?_)
               ·
                refine goes_ Try.func32 (by kernel_rfl) rfl #[.agg #[.slice Ao47 t714.length co47, .int .i64 t717], .slice Ao48 y719.length co48] (by rfl) rfl rfl (by (try simp only [List.map_toArray, List.map_cons, List.map_nil]); first | done | rfl | (simp only [List.length_drop, List.length_take]; rfl)) ?_
                with_reducible refine (segment_Applied.calls k3 _ _ t714 t717 _ _ y719 t722 t725 t726 t727 _ ?side1 ?side2 ?side3 ?side4 A38.out).mono ?_
                (case side1 => exact pc_ (Kd.R_reads' HO716.out).2.2)
                (case side2 => exact (Kd.R_reads' HO716.out).2.1)
                (case side3 => exact pc_ (Kd.R_reads' HO721.out).2.2)
                (case side4 => exact (Kd.R_reads' HO721.out).2.1)
                rintro e w49 ⟨v723, rfl, ho0, hb⟩
                refine ⟨_, rfl, ?_⟩
                replace HO_5 := Aside0.mk (Kd.R_below (rk_ HO_5) hb)
                replace HO_6 := Aside0.mk (Kd.R_below (rk_ HO_6) hb)
                replace HO721 := Aside0.mk (Kd.R_below (rk_ HO721) hb)
                have HO724 := Aside0.mk (Kd.R_lower (Kd.R_new' (Kd.R_new' ho0 (Kd.R_lt (rk_ HO_714000))) (Kd.R_lt (rk_ HO716))) (below_size (pb_ HB)))
                replace HO_714000 := Aside0.mk (Kd.R_elder' (rk_ HO_714000) (Kd.R_base ho0) hb)
                replace HO716 := Aside0.mk (Kd.R_elder' (rk_ HO716) (Kd.R_base ho0) hb)
                replace BK700 := kb_ BK700 hb
                replace BK713 := kb_ BK713 hb
                replace HB := sb_ HB hb
                (try clear hb)
                (try clear hb2)
                (try clear hk)
                (try clear hi)
                (try clear ho0)
                refine hK.out _ _ ⟨cy_ BK713 0, cy_ BK713 1, (pw_cell_below HB.out hw718_0), (pw_cell_below HB.out hw718_1), (pw_cell_below HB.out hw718_2), (pw_cell_below HB.out hw718_3), (pw_cell_below HB.out hw718_4)⟩ (fun hHeld => ?_)
                clear hK K
                refine nn_ 66 ?_
                refine pu_ 8 58 HT_ ?_
                refine pu_ 9 67 HT_ ?_
                refine pu_ 10 68 HT_ ?_
                refine pu_ 11 69 HT_ ?_
                exact norm_ pa_ (hJ1_6_7 (.slice Ao47 t714.length co47, .slice Ao48 y719.length co48, v723) _ ⟨hHeld, (by (with_reducible repeat (first | apply Kd.R_alloc | apply Kd.R_drewN | apply Kd.R_drew)); exact Kd.R_mono HO716.out (fun _ hk => ⟨hk.2, hk.1⟩)), (rk_ HO721), (by (with_reducible repeat (first | apply Kd.R_alloc | apply Kd.R_drewN | apply Kd.R_drew)); exact Kd.R_mono HO724.out (fun _ hk => ⟨hk.2, hk.1.2⟩)), (rk_ HO_5), (rk_ HO_6), (rk_ HO_714000), (pk_ BK700), (pk_ BK713), (pb_ HB)⟩)
               skip
               refine box_step ?hg (N := 10) ?hd (cs := #[.slice none 0 0, .int .i64 0]) (t := 24) ?hr ?_; (case hd => rfl); (case hg => rfl); (case hr => first | (go_simp; done) | (go_simp; rfl))
               intro gb728 hg w47 hbox hb
               replace HO_5 := Aside0.mk (Kd.R_below (rk_ HO_5) hb)
               replace HO_6 := Aside0.mk (Kd.R_below (rk_ HO_6) hb)
               replace HO_714000 := Aside0.mk (Kd.R_below (rk_ HO_714000) hb)
               replace HO716 := Aside0.mk (Kd.R_below (rk_ HO716) hb)
               replace HO721 := Aside0.mk (Kd.R_below (rk_ HO721) hb)
               have BK728 := Aside0.mk (hbox)
               have GW728 := gw_ hg HB
               have GE728 := gw_ hg HB
               replace HB := sb_ HB hb
               have NB700_728 := nl_ hg BK700
               have NB728_700 := ng_ hg BK700
               replace BK700 := kb_ BK700 hb
               have NB713_728 := nl_ hg BK713
               have NB728_713 := ng_ hg BK713
               replace BK713 := kb_ BK713 hb
               clear hb hbox hg
               refine hK.out _ _ ⟨cy_ BK713 0, cy_ BK713 1, (pw_cell_below HB.out hw718_0), (pw_cell_below HB.out hw718_1), (pw_cell_below HB.out hw718_2), (pw_cell_below HB.out hw718_3), (pw_cell_below HB.out hw718_4)⟩ (fun hHeld => ?_)
               clear hK K
               refine nn_ 10 ?_
               exact norm_ pa_ (hJ1_6_12 (.slice Ao47 t714.length co47, .slice Ao48 y719.length co48, gb728) _ ⟨hHeld, (rk_ HO716), (rk_ HO721), (rk_ HO_5), (rk_ HO_6), (rk_ HO_714000), (pk_ BK700), (pk_ BK713), (pk_ BK728), GW728.out, GE728.out, NB700_728.out, NB728_700.out, NB713_728.out, NB728_713.out, (pb_ HB)⟩)
              skip
              clear HO_5 HO_6 HO_714000 BK700 BK713 HB
              rintro ⟨v715, v720, gb728⟩ w47 ⟨hHeld, HO716, HO721, HO_5, HO_6, HO_714000, BK700, BK713, BK728, GW728, GE728, NB700_728, NB728_700, NB713_728, NB728_713, HB⟩
              try dsimp only at hHeld HO716 HO721 HO_5 HO_6 HO_714000 BK700 BK713 BK728 GW728 GE728 NB700_728 NB728_700 NB713_728 NB728_713 HB
              replace HO716 := Aside0.mk HO716
              replace HO721 := Aside0.mk HO721
              replace HO_5 := Aside0.mk HO_5
              replace HO_6 := Aside0.mk HO_6
              replace HO_714000 := Aside0.mk HO_714000
              replace BK700 := Aside0.mk BK700
              replace BK713 := Aside0.mk BK713
              replace BK728 := Aside0.mk BK728
              replace GW728 := Aside0.mk GW728
              replace GE728 := Aside0.mk GE728
              replace NB700_728 := Aside0.mk NB700_728
              replace NB728_700 := Aside0.mk NB728_700
              replace NB713_728 := Aside0.mk NB713_728
              replace NB728_713 := Aside0.mk NB728_713
              replace HB := Aside0.mk HB
              obtain ⟨Ao48, co48, eo48⟩ := Kd.R_slice HO716.out
              (first | subst eo48 | (injection eo48 with f1_ f2_ f3_; have f4_ := f1_.symm; have f5_ := f3_.symm; clear f1_ f2_ f3_; subst f4_; subst f5_))
              obtain ⟨Ao49, co49, eo49⟩ := Kd.R_slice HO721.out
              (first | subst eo49 | (injection eo49 with f1_ f2_ f3_; have f4_ := f1_.symm; have f5_ := f3_.symm; clear f1_ f2_ f3_; subst f4_; subst f5_))
              refine nm_ ?_
              refine one_ (i := 7) (N := some 66) #[true, true, true, true, true, true, true, true, false, false, false, false, true, false, false, false] rfl rfl (one_of HT_.out (by kernel_rfl)) (by decide) (fun K hK => ?_)
              refine goes_ Try.func32 (by kernel_rfl) rfl #[.agg #[.slice Ao48 t714.length co48, .int .i64 t717], .slice Ao49 y719.length co49] (by rfl) rfl rfl (by (try simp only [List.map_toArray, List.map_cons, List.map_nil]); first | done | rfl | (simp only [List.length_drop, List.length_take]; rfl)) ?_
              with_reducible refine (segment_Applied.calls k3 _ _ t714 t717 _ _ y719 t722 t725 t726 t727 _ ?side1 ?side2 ?side3 ?side4 A38.out).mono ?_
              (case side1 => exact pc_ (Kd.R_reads' HO716.out).2.2)
              (case side2 => exact (Kd.R_reads' HO716.out).2.1)
              (case side3 => exact pc_ (Kd.R_reads' HO721.out).2.2)
              (case side4 => exact (Kd.R_reads' HO721.out).2.1)
              rintro e w50 ⟨v723, rfl, ho0, hb⟩
              refine ⟨_, rfl, ?_⟩
              replace HO_5 := Aside0.mk (Kd.R_below (rk_ HO_5) hb)
              replace HO_6 := Aside0.mk (Kd.R_below (rk_ HO_6) hb)
              replace HO721 := Aside0.mk (Kd.R_below (rk_ HO721) hb)
              have HO724 := Aside0.mk (Kd.R_lower (Kd.R_new' (Kd.R_new' ho0 (Kd.R_lt (rk_ HO_714000))) (Kd.R_lt (rk_ HO716))) (below_size (pb_ HB)))
              replace HO_714000 := Aside0.mk (Kd.R_elder' (rk_ HO_714000) (Kd.R_base ho0) hb)
              replace HO716 := Aside0.mk (Kd.R_elder' (rk_ HO716) (Kd.R_base ho0) hb)
              replace BK700 := kb_ BK700 hb
              replace BK713 := kb_ BK713 hb
              replace BK728 := kb_ BK728 hb
              replace HB := sb_ HB hb
              (try clear hb)
              (try clear hb2)
              (try clear hk)
              (try clear hi)
              (try clear ho0)
              refine hK.out _ _ ⟨cy_ BK713 0, cy_ BK713 1, (pw_cell_below HB.out hw718_0), (pw_cell_below HB.out hw718_1), (pw_cell_below HB.out hw718_2), (pw_cell_below HB.out hw718_3), (pw_cell_below HB.out hw718_4)⟩ (fun hHeld => ?_)
              clear hK K
              refine nn_ 66 ?_
              refine pu_ 8 58 HT_ ?_
              refine pu_ 9 67 HT_ ?_
              refine pu_ 10 68 HT_ ?_
              refine pu_ 11 69 HT_ ?_
              exact norm_ pa_ (hJ1_6_7_12 (.slice Ao48 t714.length co48, .slice Ao49 y719.length co49, v723, gb728) _ ⟨hHeld, (by (with_reducible repeat (first | apply Kd.R_alloc | apply Kd.R_drewN | apply Kd.R_drew)); exact Kd.R_mono HO716.out (fun _ hk => ⟨hk.2, hk.1⟩)), (rk_ HO721), (by (with_reducible repeat (first | apply Kd.R_alloc | apply Kd.R_drewN | apply Kd.R_drew)); exact Kd.R_mono HO724.out (fun _ hk => ⟨hk.2, hk.1.2⟩)), (rk_ HO_5), (rk_ HO_6), (rk_ HO_714000), (pk_ BK700), (pk_ BK713), (pk_ BK728), GW728.out, GE728.out, NB700_728.out, NB728_700.out, NB713_728.out, NB728_713.out, (pb_ HB)⟩)
             skip
             clear HO_5 HO_6 HO_714000 BK700 BK713 HB
             rintro ⟨v715, v720, v723⟩ w49 ⟨hHeld, HO716, HO721, HO724, HO_5, HO_6, HO_714000, BK700, BK713, HB⟩
             try dsimp only at hHeld HO716 HO721 HO724 HO_5 HO_6 HO_714000 BK700 BK713 HB
             replace HO716 := Aside0.mk HO716
             replace HO721 := Aside0.mk HO721
             replace HO724 := Aside0.mk HO724
             replace HO_5 := Aside0.mk HO_5
             replace HO_6 := Aside0.mk HO_6
             replace HO_714000 := Aside0.mk HO_714000
             replace BK700 := Aside0.mk BK700
             replace BK713 := Aside0.mk BK713
             replace HB := Aside0.mk HB
             refine nm_ ?_
             refine one_ (i := 12) (N := some 10) #[true, true, true, true, true, true, true, true, true, true, true, true, true, false, false, false] rfl rfl (one_of HT_.out (by kernel_rfl)) (by decide) (fun K hK => ?_)
             refine box_step ?hg (N := 10) ?hd (cs := #[.slice none 0 0, .int .i64 0]) (t := 24) ?hr ?_; (case hd => rfl); (case hg => rfl); (case hr => first | (go_simp; done) | (go_simp; rfl))
             intro gb728 hg w50 hbox hb
             replace HO_5 := Aside0.mk (Kd.R_below (rk_ HO_5) hb)
             replace HO_6 := Aside0.mk (Kd.R_below (rk_ HO_6) hb)
             replace HO_714000 := Aside0.mk (Kd.R_below (rk_ HO_714000) hb)
             replace HO716 := Aside0.mk (Kd.R_below (rk_ HO716) hb)
             replace HO721 := Aside0.mk (Kd.R_below (rk_ HO721) hb)
             replace HO724 := Aside0.mk (Kd.R_below (rk_ HO724) hb)
             have BK728 := Aside0.mk (hbox)
             have GW728 := gw_ hg HB
             have GE728 := gw_ hg HB
             replace HB := sb_ HB hb
             have NB700_728 := nl_ hg BK700
             have NB728_700 := ng_ hg BK700
             replace BK700 := kb_ BK700 hb
             have NB713_728 := nl_ hg BK713
             have NB728_713 := ng_ hg BK713
             replace BK713 := kb_ BK713 hb
             clear hb hbox hg
             refine hK.out _ _ ⟨cy_ BK713 0, cy_ BK713 1, (pw_cell_below HB.out hw718_0), (pw_cell_below HB.out hw718_1), (pw_cell_below HB.out hw718_2), (pw_cell_below HB.out hw718_3), (pw_cell_below HB.out hw718_4)⟩ (fun hHeld => ?_)
             clear hK K
             refine nn_ 10 ?_
             exact norm_ pa_ (hJ1_6_7_12 (v715, v720, v723, gb728) _ ⟨hHeld, (rk_ HO716), (rk_ HO721), (rk_ HO724), (rk_ HO_5), (rk_ HO_6), (rk_ HO_714000), (pk_ BK700), (pk_ BK713), (pk_ BK728), GW728.out, GE728.out, NB700_728.out, NB728_700.out, NB713_728.out, NB728_713.out, (pb_ HB)⟩)
            clear HO_5 HO_6 HO_714000 BK700 BK713 HB
            rintro ⟨v715, v720, v723, gb728⟩ w50 ⟨hHeld, HO716, HO721, HO724, HO_5, HO_6, HO_714000, BK700, BK713, BK728, GW728, GE728, NB700_728, NB728_700, NB713_728, NB728_713, HB⟩
            try dsimp only at hHeld HO716 HO721 HO724 HO_5 HO_6 HO_714000 BK700 BK713 BK728 GW728 GE728 NB700_728 NB728_700 NB713_728 NB728_713 HB
            replace HO716 := Aside0.mk HO716
            replace HO721 := Aside0.mk HO721
            replace HO724 := Aside0.mk HO724
            replace HO_5 := Aside0.mk HO_5
            replace HO_6 := Aside0.mk HO_6
            replace HO_714000 := Aside0.mk HO_714000
            replace BK700 := Aside0.mk BK700
            replace BK713 := Aside0.mk BK713
            replace BK728 := Aside0.mk BK728
            replace GW728 := Aside0.mk GW728
            replace GE728 := Aside0.mk GE728
            replace NB700_728 := Aside0.mk NB700_728
            replace NB728_700 := Aside0.mk NB728_700
            replace NB713_728 := Aside0.mk NB713_728
            replace NB728_713 := Aside0.mk NB728_713
            replace HB := Aside0.mk HB
            obtain ⟨Ao51, co51, eo51⟩ := Kd.R_slice HO724.out
            (first | subst eo51 | (injection eo51 with f1_ f2_ f3_; have f4_ := f1_.symm; have f5_ := f3_.symm; clear f1_ f2_ f3_; subst f4_; subst f5_))
            refine nm_ ?_
            refine one_ (i := 13) (N := none) #[true, true, true, true, true, true, true, true, true, true, true, true, true, true, false, false] rfl rfl (one_of HT_.out (by kernel_rfl)) (by decide) (fun K hK => ?_)
            have hs52 : w50.cell? ⟨gb728, 0, none⟩ = some (.slice none 0 0) := (blk_cell BK728.out 0).trans rfl
            have hfs52 := blk_frozen BK728.out 0
            have hns52_0 := NB700_728.out
            have hns52_1 := NB713_728.out
            have hms52_0 := NB728_700.out
            have hms52_1 := NB728_713.out
            have hs53 : w50.cell? ⟨gb728, 1, none⟩ = some (.int .i64 0) := (blk_cell BK728.out 1).trans rfl
            have hfs53 := blk_frozen BK728.out 1
            have hns53_0 := NB700_728.out
            have hns53_1 := NB713_728.out
            have hms53_0 := NB728_700.out
            have hms53_1 := NB728_713.out
            refine skip_ (w1 := ?_) (by rfl) rfl ?_ ?_
            rotate_left
            ·
             go_simp
             rfl
            refine hK.out _ _ ⟨((cell_far (p := ⟨gb728, _, none⟩) NB713_728.out _).trans (((cell_far (p := ⟨gb728, _, none⟩) NB713_728.out _).trans (hHeld.1)))), ((cell_far (p := ⟨gb728, _, none⟩) NB713_728.out _).trans (((cell_far (p := ⟨gb728, _, none⟩) NB713_728.out _).trans (hHeld.2.1)))), ((cell_far (p := ⟨gb728, _, none⟩) (nf_ hw718_0 GW728) _).trans (((cell_far (p := ⟨gb728, _, none⟩) (nf_ hw718_0 GW728) _).trans (hHeld.2.2.1)))), ((cell_far (p := ⟨gb728, _, none⟩) (nf_ hw718_1 GW728) _).trans (((cell_far (p := ⟨gb728, _, none⟩) (nf_ hw718_1 GW728) _).trans (hHeld.2.2.2.1)))), ((cell_far (p := ⟨gb728, _, none⟩) (nf_ hw718_2 GW728) _).trans (((cell_far (p := ⟨gb728, _, none⟩) (nf_ hw718_2 GW728) _).trans (hHeld.2.2.2.2.1)))), ((cell_far (p := ⟨gb728, _, none⟩) (nf_ hw718_3 GW728) _).trans (((cell_far (p := ⟨gb728, _, none⟩) (nf_ hw718_3 GW728) _).trans (hHeld.2.2.2.2.2.1)))), ((cell_far (p := ⟨gb728, _, none⟩) (nf_ hw718_4 GW728) _).trans (((cell_far (p := ⟨gb728, _, none⟩) (nf_ hw718_4 GW728) _).trans (hHeld.2.2.2.2.2.2))))⟩ (fun hHeld => ?_)
            clear hK K
            refine pu_ 14 11 HT_ ?_
            refine pu_ 15 12 HT_ ?_
            refine done_ (done_of HT_.out (by kernel_rfl)) ?_
            go_upto_region 16 with (fail)
            go_cut [78] (fun v78 wc => ∃ (kq : Nat) (x78_39 : Bool), v78 = .bool x78_39 ∧ Aside0 (midrangelaw04_SegmentNumbers.j3 kq l1 x5_3 x6_3 x9_3 x78_39 x714000_3 x714001_3 t722 t725 = some r) ∧ Aside0 (kq ≤ k3) ∧ Aside0 (Kd.R (Kd.int .i64) 3 wc w.heap.size (fun k_ => some k_ ≠ (u6 : Value).ownBlock) u5 x5_3) ∧ Aside0 (Kd.R (Kd.int .i64) 3 wc w.heap.size (fun k_ => some k_ ≠ (u5 : Value).ownBlock) u6 x6_3) ∧ Aside0 (Kd.R k56 56 wc w.heap.size (fun k_ => some k_ ≠ ((.slice Ao51 t722.length co51) : Value).ownBlock) (.slice Ao41 x714000_3.length co41) x714000_3) ∧ Aside0 (Kd.R k56 56 wc w.heap.size (fun k_ => some k_ ≠ ((.slice Ao41 x714000_3.length co41) : Value).ownBlock) (.slice Ao51 t722.length co51) t722) ∧ Aside0 (wc.heap[gb700]? = some (.cells #[(.slice A0_0 l0_0.length c0_0), .int .i64 a0_1] 24 (0, 0))) ∧ Aside0 (wc.heap[gb713]? = some (.cells #[(.slice Ao41 x714000_3.length co41), .int .i64 x714001_3] 24 (0, 0))) ∧ Aside0 (wc.heap[gb728]? = some (.cells #[(.slice Ao51 t722.length co51), .int .i64 t725] 24 (0, 0))) ∧ Aside0 (Below w.heap.size w wc))
            case first =>
             have H := HC40.out
             clear HC40
             by_cases c54 : t726 = 1
             ·
              rw [if_pos c54] at H
              have c54b0 : (t726 == 1) = true := beq_iff_eq.mpr c54
              have c54b1 : (t726 != 1) = false := bne_eq_false_iff_eq.mpr c54
              clear c54
              (first | rw [c54b0] | (simp only [i64_w, i32_w]; rw [c54b0]) | skip)
              replace H := Option.bind_eq_some_iff.mp H
              obtain ⟨t729, A550, H⟩ := H
              replace H : (midrangelaw04_SegmentNumbers.j3 k3 l1 x5_3 x6_3 x9_3 (!t729) x714000_3 x714001_3 t722 t725) = some r := H
              have A55 := Aside0.mk A550
              clear A550
              have H' := Aside0.mk H
              clear H
              have hnb56 := NB728_700.out
              have hnc56 := NB700_728.out
              have hnb57 := NB728_713.out
              have hnc57 := NB713_728.out
              have hcz58_0 := cz_ BK728 0 (.slice none 0 0)
              have hcz58_1 := cz_ BK728 1 (.int .i64 0)
              have hfz58_0 := blk_frozen BK728.out 0
              have hfz58_1 := blk_frozen BK728.out 1
              go_wp2_with (first | (go_at_call 11; (with_reducible refine (midrangelaw04_few.calls k3 _ _ t722 t725 t729 _ ?side1 ?side2 A55.out).mono ?_); (case side1 => refine (Kd.R_reads' (e := 56) (base := w.heap.size) (ok := fun k_ => (some k_ ≠ (v715 : Value).ownBlock ∧ some k_ ≠ (.slice Ao41 x714000_3.length co41 : Value).ownBlock)) (n := t722.length) (c := co51) ?_).2.2; exact (by (with_reducible repeat (first | apply Kd.R_alloc | apply Kd.R_drewN | apply Kd.R_drew)); exact (Kd.R_mono (Kd.R_far (p := ⟨gb728, 1, none⟩) (Kd.R_far (p := ⟨gb728, 0, none⟩) (Kd.R_types HO724.out BK728.out (by decide)) (fun _ hk => hk.2) (.slice Ao51 t722.length co51)) (fun _ hk => hk.2) (.int .i64 t725)) (fun _ h_ => h_.1)))); (case side2 => exact (Kd.R_reads' HO724.out).2.1); rintro e w59 ⟨rfl, hb⟩; replace HO_5 := Aside0.mk (Kd.R_below (by (with_reducible repeat (first | apply Kd.R_alloc | apply Kd.R_drewN | apply Kd.R_drew)); exact (Kd.R_mono (Kd.R_far (p := ⟨gb728, 1, none⟩) (Kd.R_far (p := ⟨gb728, 0, none⟩) (Kd.R_types HO_5.out BK728.out (by decide)) (fun _ hk => hk.2) (.slice Ao51 t722.length co51)) (fun _ hk => hk.2) (.int .i64 t725)) (fun _ h_ => h_.1))) hb); replace HO_6 := Aside0.mk (Kd.R_below (by (with_reducible repeat (first | apply Kd.R_alloc | apply Kd.R_drewN | apply Kd.R_drew)); exact (Kd.R_mono (Kd.R_far (p := ⟨gb728, 1, none⟩) (Kd.R_far (p := ⟨gb728, 0, none⟩) (Kd.R_types HO_6.out BK728.out (by decide)) (fun _ hk => hk.2) (.slice Ao51 t722.length co51)) (fun _ hk => hk.2) (.int .i64 t725)) (fun _ h_ => h_.1))) hb); replace HO_714000 := Aside0.mk (Kd.R_below (by (with_reducible repeat (first | apply Kd.R_alloc | apply Kd.R_drewN | apply Kd.R_drew)); exact (Kd.R_mono (Kd.R_far (p := ⟨gb728, 1, none⟩) (Kd.R_far (p := ⟨gb728, 0, none⟩) (Kd.R_types HO_714000.out BK728.out (by decide)) (fun _ hk => hk.2) (.slice Ao51 t722.length co51)) (fun _ hk => hk.2) (.int .i64 t725)) (fun _ h_ => h_.1))) hb); replace HO716 := Aside0.mk (Kd.R_below (by (with_reducible repeat (first | apply Kd.R_alloc | apply Kd.R_drewN | apply Kd.R_drew)); exact (Kd.R_mono (Kd.R_far (p := ⟨gb728, 1, none⟩) (Kd.R_far (p := ⟨gb728, 0, none⟩) (Kd.R_types HO716.out BK728.out (by decide)) (fun _ hk => hk.2) (.slice Ao51 t722.length co51)) (fun _ hk => hk.2) (.int .i64 t725)) (fun _ h_ => h_.1))) hb); replace HO721 := Aside0.mk (Kd.R_below (by (with_reducible repeat (first | apply Kd.R_alloc | apply Kd.R_drewN | apply Kd.R_drew)); exact (Kd.R_mono (Kd.R_far (p := ⟨gb728, 1, none⟩) (Kd.R_far (p := ⟨gb728, 0, none⟩) (Kd.R_types HO721.out BK728.out (by decide)) (fun _ hk => hk.2) (.slice Ao51 t722.length co51)) (fun _ hk => hk.2) (.int .i64 t725)) (fun _ h_ => h_.1))) hb); replace HO724 := Aside0.mk (Kd.R_below (by (with_reducible repeat (first | apply Kd.R_alloc | apply Kd.R_drewN | apply Kd.R_drew)); exact (Kd.R_mono (Kd.R_far (p := ⟨gb728, 1, none⟩) (Kd.R_far (p := ⟨gb728, 0, none⟩) (Kd.R_types HO724.out BK728.out (by decide)) (fun _ hk => hk.2) (.slice Ao51 t722.length co51)) (fun _ hk => hk.2) (.int .i64 t725)) (fun _ h_ => h_.1))) hb); replace BK700 := Aside0.mk (blk_below (g := gb700) (o := .cells #[.slice A0_0 l0_0.length c0_0, .int .i64 a0_1] 24 (0, 0)) (by (with_reducible repeat (first | refine blk_drewN ?_ _ | refine blk_drew ?_ | refine blk_alloc ?_ _)); refine blk_far ?_ NB700_728.out _; (with_reducible repeat (first | refine blk_drewN ?_ _ | refine blk_drew ?_ | refine blk_alloc ?_ _)); refine blk_far ?_ NB700_728.out _; (with_reducible repeat (first | refine blk_drewN ?_ _ | refine blk_drew ?_ | refine blk_alloc ?_ _)); exact BK700.out) hb); replace BK713 := Aside0.mk (blk_below (g := gb713) (o := .cells #[.slice Ao41 x714000_3.length co41, .int .i64 x714001_3] 24 (0, 0)) (by (with_reducible repeat (first | refine blk_drewN ?_ _ | refine blk_drew ?_ | refine blk_alloc ?_ _)); refine blk_far ?_ NB713_728.out _; (with_reducible repeat (first | refine blk_drewN ?_ _ | refine blk_drew ?_ | refine blk_alloc ?_ _)); refine blk_far ?_ NB713_728.out _; (with_reducible repeat (first | refine blk_drewN ?_ _ | refine blk_drew ?_ | refine blk_alloc ?_ _)); exact BK713.out) hb); replace BK728 := Aside0.mk (blk_below (g := gb728) (o := .cells #[.slice Ao51 t722.length co51, .int .i64 t725] 24 (0, 0)) (bq_ BK728) hb); replace HB := sb_ HB hb; (try clear hb); (try clear hb2); (try clear hk); (try clear hi)))
              go_meet
              case rel => exact ⟨_, (!t729), rl_, H', ⟨by have := HJ4.out; have := HK2.out; have := HK3.out; first | omega | exact Nat.le_refl _⟩, ⟨by (with_reducible repeat (first | apply Kd.R_alloc | apply Kd.R_drewN | apply Kd.R_drew)); exact HO_5.out⟩, ⟨by (with_reducible repeat (first | apply Kd.R_alloc | apply Kd.R_drewN | apply Kd.R_drew)); exact HO_6.out⟩, ⟨by (with_reducible repeat (first | apply Kd.R_alloc | apply Kd.R_drewN | apply Kd.R_drew)); exact Kd.R_mono HO_714000.out (fun _ hk => hk.2)⟩, ⟨by (with_reducible repeat (first | apply Kd.R_alloc | apply Kd.R_drewN | apply Kd.R_drew)); exact Kd.R_mono HO724.out (fun _ hk => hk.2)⟩, ⟨pk_ BK700⟩, ⟨pk_ BK713⟩, ⟨pk_ BK728⟩, ⟨pb_ HB⟩⟩
             rw [if_neg c54] at H
             have c54b0 : (t726 == 1) = false := beq_eq_false_iff_ne.mpr c54
             have c54b1 : (t726 != 1) = true := bne_iff_ne.mpr c54
             (first | rw [c54b0] | (simp only [i64_w, i32_w]; rw [c54b0]) | skip)
             have H' := Aside0.mk H
             clear H
             go_wp2
             go_meet
             case rel => exact ⟨_, (true), rl_, H', ⟨by have := HJ4.out; have := HK2.out; have := HK3.out; first | omega | exact Nat.le_refl _⟩, ⟨by (with_reducible repeat (first | apply Kd.R_alloc | apply Kd.R_drewN | apply Kd.R_drew)); exact Kd.R_mono (Kd.R_far (p := ⟨gb728, 1, none⟩) (Kd.R_far (p := ⟨gb728, 0, none⟩) (Kd.R_types HO_5.out BK728.out (by decide)) (fun _ hk => hk.2) (.slice Ao51 t722.length co51)) (fun _ hk => hk.2) (.int .i64 t725)) (fun _ hk => hk.1)⟩, ⟨by (with_reducible repeat (first | apply Kd.R_alloc | apply Kd.R_drewN | apply Kd.R_drew)); exact Kd.R_mono (Kd.R_far (p := ⟨gb728, 1, none⟩) (Kd.R_far (p := ⟨gb728, 0, none⟩) (Kd.R_types HO_6.out BK728.out (by decide)) (fun _ hk => hk.2) (.slice Ao51 t722.length co51)) (fun _ hk => hk.2) (.int .i64 t725)) (fun _ hk => hk.1)⟩, ⟨by (with_reducible repeat (first | apply Kd.R_alloc | apply Kd.R_drewN | apply Kd.R_drew)); exact Kd.R_mono (Kd.R_far (p := ⟨gb728, 1, none⟩) (Kd.R_far (p := ⟨gb728, 0, none⟩) (Kd.R_types HO_714000.out BK728.out (by decide)) (fun _ hk => hk.2) (.slice Ao51 t722.length co51)) (fun _ hk => hk.2) (.int .i64 t725)) (fun _ hk => hk.1.2)⟩, ⟨by (with_reducible repeat (first | apply Kd.R_alloc | apply Kd.R_drewN | apply Kd.R_drew)); exact Kd.R_mono (Kd.R_far (p := ⟨gb728, 1, none⟩) (Kd.R_far (p := ⟨gb728, 0, none⟩) (Kd.R_types HO724.out BK728.out (by decide)) (fun _ hk => hk.2) (.slice Ao51 t722.length co51)) (fun _ hk => hk.2) (.int .i64 t725)) (fun _ hk => hk.1.2)⟩, ⟨by (with_reducible repeat (first | refine blk_drewN ?_ _ | refine blk_drew ?_ | refine blk_alloc ?_ _)); refine blk_far ?_ NB700_728.out _; (with_reducible repeat (first | refine blk_drewN ?_ _ | refine blk_drew ?_ | refine blk_alloc ?_ _)); refine blk_far ?_ NB700_728.out _; (with_reducible repeat (first | refine blk_drewN ?_ _ | refine blk_drew ?_ | refine blk_alloc ?_ _)); exact BK700.out⟩, ⟨by (with_reducible repeat (first | refine blk_drewN ?_ _ | refine blk_drew ?_ | refine blk_alloc ?_ _)); refine blk_far ?_ NB713_728.out _; (with_reducible repeat (first | refine blk_drewN ?_ _ | refine blk_drew ?_ | refine blk_alloc ?_ _)); refine blk_far ?_ NB713_728.out _; (with_reducible repeat (first | refine blk_drewN ?_ _ | refine blk_drew ?_ | refine blk_alloc ?_ _)); exact BK713.out⟩, ⟨bq_ BK728⟩, ⟨pb_ HB⟩⟩
            case rest =>
             clear HC40
             try clear p2
             try clear c3
             try clear c5
             try clear c32
             try clear c54
             try clear c54b0
             try clear c54b1
             try clear c56
             try clear c57
             try clear hcz58_0
             try clear hcz58_1
             try clear hfz58_0
             try clear hfz58_1
             obtain ⟨kq, x78_39, rfl, HA, HJ39, HO_5, HO_6, HO_714000, HO_729000, BK700, BK713, BK728, HB⟩ := hcut
             cases kq with
             | zero => exact absurd HA.out (by simp [midrangelaw04_SegmentNumbers.j3])
             | succ kj39 =>
              have H := HA.out
              clear HA
              simp only [midrangelaw04_SegmentNumbers.j3] at H
              by_cases c60 : x78_39 = true
              ·
               subst c60
               have H1 : (some false) = some r := by rw [if_pos rfl] at H; exact H
               clear H
               have H := H1
               clear H1
               obtain rfl := Option.some.inj H
               go_wp2
               go_ret
               exact ⟨er_, pb_ HB⟩
              replace c60 := Bool.eq_false_iff.mpr c60
              subst c60
              have H1 : (if 0 ≤ x9_3 then (if x9_3 < (l1.length : Int) then (if ((rd_T66 l1 x9_3).f0) = 0 then ((midrangeref04_Own.f x714000_3 x714001_3).bind fun bt731 => ((segment_Created.f kj39 bt731.1 bt731.2 ((rd_T66 l1 x9_3).f3)).bind fun bt736 => (if bt736.2.2.2 = 0 then ((midrangebase_IndexOf.f kj39 x6_3 bt736.2.2.1).bind fun t743 => (midrangelaw04_SegmentNumbers.j4 kj39 l1 x5_3 x6_3 x9_3 bt736.2.2.1 (t743 != (-1)) t722 t725)) else (midrangelaw04_SegmentNumbers.j4 kj39 l1 x5_3 x6_3 x9_3 bt736.2.2.1 true t722 t725)))) else (if ((rd_T66 l1 x9_3).f0) = 3 then (if x5_3.length < 17592186044416 then (midrangelaw04_SegmentNumbers.l1 kj39 l1 (x5_3 ++ [(rd_T66 l1 x9_3).f1]) x6_3 (wrap64 (x9_3 + 1)) t722 t725) else (none)) else (midrangelaw04_SegmentNumbers.l1 kj39 l1 x5_3 x6_3 (wrap64 (x9_3 + 1)) t722 t725))) else (none)) else (none)) = some r := by rw [if_neg (show ¬ (false = true) by decide)] at H; exact H
              clear H
              have H := H1
              clear H1
              by_cases c61 : 0 ≤ x9_3
              ·
               rw [if_pos c61] at H
               have c61b0 : decide (0 ≤ x9_3) = true := decide_eq_true c61
               clear c61
               by_cases c62 : x9_3 < (l1.length : Int)
               ·
                rw [if_pos c62] at H
                have c62b0 : decide (x9_3 < (l1.length : Int)) = true := decide_eq_true c62
                clear c62
                by_cases c63 : ((rd_T66 l1 x9_3).f0) = 0
                ·
                 rw [if_pos c63] at H
                 have c63b0 : (((rd_T66 l1 x9_3).f0) == 0) = true := beq_iff_eq.mpr c63
                 have c63b1 : (((rd_T66 l1 x9_3).f0) != 0) = false := bne_eq_false_iff_eq.mpr c63
                 clear c63
                 replace H := Option.bind_eq_some_iff.mp H
                 obtain ⟨⟨t731, t734⟩, A640, H⟩ := H
                 replace H : ((segment_Created.f kj39 t731 t734 ((rd_T66 l1 x9_3).f3)).bind fun bt736 => (if bt736.2.2.2 = 0 then ((midrangebase_IndexOf.f kj39 x6_3 bt736.2.2.1).bind fun t743 => (midrangelaw04_SegmentNumbers.j4 kj39 l1 x5_3 x6_3 x9_3 bt736.2.2.1 (t743 != (-1)) t722 t725)) else (midrangelaw04_SegmentNumbers.j4 kj39 l1 x5_3 x6_3 x9_3 bt736.2.2.1 true t722 t725))) = some r := H
                 have A64 := Aside0.mk A640
                 clear A640
                 replace H := Option.bind_eq_some_iff.mp H
                 obtain ⟨⟨t736, t739, t740, t741⟩, A650, H⟩ := H
                 replace H : (if t741 = 0 then ((midrangebase_IndexOf.f kj39 x6_3 t740).bind fun t743 => (midrangelaw04_SegmentNumbers.j4 kj39 l1 x5_3 x6_3 x9_3 t740 (t743 != (-1)) t722 t725)) else (midrangelaw04_SegmentNumbers.j4 kj39 l1 x5_3 x6_3 x9_3 t740 true t722 t725)) = some r := H
                 have A65 := Aside0.mk A650
                 clear A650
                 have HC66 := Aside0.mk H
                 clear H
                 have p730 : 0 ≤ (x9_3 : Int) := ct_
                 have q730 : x9_3 < (l1.length : Int) := ct_
                 obtain ⟨ad730, e730, hx730_0, hx730_1, hx730_2, hx730_3, hx730_4⟩ := at_T66 HR1.out x9_3 p730 q730
                 obtain rfl : ad718 = ad730 := (by injection e730)
                 replace hx730_0 := pw_cell_below HB.out hx730_0
                 replace hx730_1 := pw_cell_below HB.out hx730_1
                 replace hx730_2 := pw_cell_below HB.out hx730_2
                 replace hx730_3 := pw_cell_below HB.out hx730_3
                 replace hx730_4 := pw_cell_below HB.out hx730_4
                 replace p730 := eq_true p730
                 replace q730 := eq_true q730
                 try go_wp2
                 replace HO_5 := rd_ HO_5
                 replace HO_6 := rd_ HO_6
                 replace HO_714000 := rd_ HO_714000
                 replace HO_729000 := rd_ HO_729000
                 replace BK700 := Aside0.mk (blk_drew BK700.out)
                 replace BK713 := Aside0.mk (blk_drew BK713.out)
                 replace BK728 := Aside0.mk (blk_drew BK728.out)
                 replace HB := Aside0.mk (below_drew1 HB.out)
                 have p735 : 0 ≤ (x9_3 : Int) := ct_
                 have q735 : x9_3 < (l1.length : Int) := ct_
                 obtain ⟨ad735, e735, hx735_0, hx735_1, hx735_2, hx735_3, hx735_4⟩ := at_T66 HR1.out x9_3 p735 q735
                 have hw735_4 := hx735_4
                 have hw735_3 := hx735_3
                 have hw735_2 := hx735_2
                 have hw735_1 := hx735_1
                 have hw735_0 := hx735_0
                 obtain rfl : ad718 = ad735 := (by injection e735)
                 replace hx735_0 := pw_cell_below HB.out hx735_0
                 replace hx735_1 := pw_cell_below HB.out hx735_1
                 replace hx735_2 := pw_cell_below HB.out hx735_2
                 replace hx735_3 := pw_cell_below HB.out hx735_3
                 replace hx735_4 := pw_cell_below HB.out hx735_4
                 replace p735 := eq_true p735
                 replace q735 := eq_true q735
                 refine start_ (n := 16) (S := fun w' => w'.cell? ⟨gb713, 0, none⟩ = some (.slice Ao41 x714000_3.length co41) ∧ w'.cell? ⟨gb713, 1, none⟩ = some (.int .i64 x714001_3) ∧ w'.cell? (ad718.add ((x9_3).toNat * 5)) = some (.int .i64 ((rd_T66 l1 x9_3).f0)) ∧ w'.cell? ⟨(ad718.add ((x9_3).toNat * 5)).block, (ad718.add ((x9_3).toNat * 5)).off + 1, none⟩ = some (.int .i64 ((rd_T66 l1 x9_3).f1)) ∧ w'.cell? ⟨(ad718.add ((x9_3).toNat * 5)).block, (ad718.add ((x9_3).toNat * 5)).off + 2, none⟩ = some (.int .i64 ((rd_T66 l1 x9_3).f2)) ∧ w'.cell? ⟨(ad718.add ((x9_3).toNat * 5)).block, (ad718.add ((x9_3).toNat * 5)).off + 3, none⟩ = some (.int .i64 ((rd_T66 l1 x9_3).f3)) ∧ w'.cell? ⟨(ad718.add ((x9_3).toNat * 5)).block, (ad718.add ((x9_3).toNat * 5)).off + 4, none⟩ = some (.string ((rd_T66 l1 x9_3).f4))) (ds := []) #[false, false, false, false, false, false, false, false, false, false, false, false, false, false, false, false] (by kernel_rfl) rfl rfl ⟨cy_ BK713 0, cy_ BK713 1, (pw_cell_below HB.out hw735_0), (pw_cell_below HB.out hw735_1), (pw_cell_below HB.out hw735_2), (pw_cell_below HB.out hw735_3), (pw_cell_below HB.out hw735_4)⟩ (fun hHeld => ?_); refine with_tabW midrangelaw04_SegmentNumbers.tab19 midrangelaw04_SegmentNumbers.bits19 (fun HT_ HW_ => ?_)
                 generalize wc.drew = w67 at HO_5 HO_6 HO_714000 HO_729000 BK700 BK713 BK728 HB hx735_0 hx735_1 hx735_2 hx735_3 hx735_4 hHeld ⊢
                 refine pu_ 2 88 HT_ ?_
                 refine pu_ 3 89 HT_ ?_
                 refine pu_ 4 90 HT_ ?_
                 refine pu_ 5 91 HT_ ?_
                 refine tk_ 0 86 HT_ HW_ hHeld rfl (Or.inl ⟨by rfl, by rintro w' ⟨s0, s1, s2, s3, s4, s5, s6⟩; go_simp; with_reducible rfl⟩) ?_
                 refine tk_ 6 92 HT_ HW_ hHeld rfl (Or.inl ⟨by rfl, by rintro w' ⟨s0, s1, s2, s3, s4, s5, s6⟩; go_simp; with_reducible rfl⟩) ?_
                 refine join_ (σ := Value × Value × Nat) 3 #[true, true, true, true, true, true, true, true, true, true, true, true, true, false, false, false] (fun s_ => [(87, .agg #[s_.1, .int .i64 t734]), (93, .tuple #[.agg #[s_.2.1, .int .i64 t739], .int .i64 t740, .int .i64 t741]), (13, .pointer (some ⟨s_.2.2, 0, none⟩)), (85, .tuple #[.agg #[s_.2.1, .int .i64 t739], .int .i64 t740, .int .i64 t741]), (94, .agg #[s_.2.1, .int .i64 t739]), (95, .int .i64 t740), (96, .int .i64 t741)]) (fun s_ w' => (w'.cell? ⟨gb713, 0, none⟩ = some (.slice Ao41 x714000_3.length co41) ∧ w'.cell? ⟨gb713, 1, none⟩ = some (.int .i64 x714001_3) ∧ w'.cell? (ad718.add ((x9_3).toNat * 5)) = some (.int .i64 ((rd_T66 l1 x9_3).f0)) ∧ w'.cell? ⟨(ad718.add ((x9_3).toNat * 5)).block, (ad718.add ((x9_3).toNat * 5)).off + 1, none⟩ = some (.int .i64 ((rd_T66 l1 x9_3).f1)) ∧ w'.cell? ⟨(ad718.add ((x9_3).toNat * 5)).block, (ad718.add ((x9_3).toNat * 5)).off + 2, none⟩ = some (.int .i64 ((rd_T66 l1 x9_3).f2)) ∧ w'.cell? ⟨(ad718.add ((x9_3).toNat * 5)).block, (ad718.add ((x9_3).toNat * 5)).off + 3, none⟩ = some (.int .i64 ((rd_T66 l1 x9_3).f3)) ∧ w'.cell? ⟨(ad718.add ((x9_3).toNat * 5)).block, (ad718.add ((x9_3).toNat * 5)).off + 4, none⟩ = some (.string ((rd_T66 l1 x9_3).f4))) ∧ (Kd.R k56 56 w' w.heap.size (fun k_ => some k_ ≠ (s_.2.1 : Value).ownBlock ∧ some k_ ≠ (.slice Ao41 x714000_3.length co41 : Value).ownBlock ∧ some k_ ≠ (.slice Ao51 t722.length co51 : Value).ownBlock) s_.1 t731) ∧ (Kd.R k56 56 w' w.heap.size (fun k_ => some k_ ≠ (s_.1 : Value).ownBlock ∧ some k_ ≠ (.slice Ao41 x714000_3.length co41 : Value).ownBlock ∧ some k_ ≠ (.slice Ao51 t722.length co51 : Value).ownBlock) s_.2.1 t736) ∧ (Kd.R (Kd.int .i64) 3 w' w.heap.size (fun k_ => some k_ ≠ (u6 : Value).ownBlock) u5 x5_3) ∧ (Kd.R (Kd.int .i64) 3 w' w.heap.size (fun k_ => some k_ ≠ (u5 : Value).ownBlock) u6 x6_3) ∧ (Kd.R k56 56 w' w.heap.size (fun k_ => some k_ ≠ (s_.1 : Value).ownBlock ∧ some k_ ≠ (s_.2.1 : Value).ownBlock ∧ some k_ ≠ (.slice Ao51 t722.length co51 : Value).ownBlock) (.slice Ao41 x714000_3.length co41) x714000_3) ∧ (Kd.R k56 56 w' w.heap.size (fun k_ => some k_ ≠ (s_.1 : Value).ownBlock ∧ some k_ ≠ (s_.2.1 : Value).ownBlock ∧ some k_ ≠ (.slice Ao41 x714000_3.length co41 : Value).ownBlock) (.slice Ao51 t722.length co51) t722) ∧ (w'.heap[gb700]? = some (.cells #[.slice A0_0 l0_0.length c0_0, .int .i64 a0_1] 24 (0, 0))) ∧ (w'.heap[gb713]? = some (.cells #[.slice Ao41 x714000_3.length co41, .int .i64 x714001_3] 24 (0, 0))) ∧ (w'.heap[gb728]? = some (.cells #[.slice Ao51 t722.length co51, .int .i64 t725] 24 (0, 0))) ∧ (w'.heap[s_.2.2]? = some (.cells #[.slice none 0 0, .int .i64 0] 24 (0, 0))) ∧ (w.heap.size ≤ s_.2.2) ∧ (w.heap.size ≤ s_.2.2) ∧ (gb700 ≠ s_.2.2) ∧ (s_.2.2 ≠ gb700) ∧ (gb713 ≠ s_.2.2) ∧ (s_.2.2 ≠ gb713) ∧ (gb728 ≠ s_.2.2) ∧ (s_.2.2 ≠ gb728) ∧ (Below w.heap.size w w')) ?_ ?_
                 rotate_left
                 ·
                  intro hCont
                  refine two_ (i := 1) (j := 12) (Ni := some 87) (Nj := some 13) #[true, true, true, true, true, true, true, false, false, false, false, false, false, false, false, false] #[true, false, true, true, true, true, true, false, false, false, false, false, true, false, false, false] rfl rfl rfl rfl (two_of HT_.out (by kernel_rfl)) (by decide) (by decide) (fun K hK => ?_) (fun K hK => ?_)
                  ·
                   refine goes_ Try.func13 (by kernel_rfl) rfl #[.agg #[.slice Ao41 x714000_3.length co41, .int .i64 x714001_3]] (by rfl) rfl rfl (by (try simp only [List.map_toArray, List.map_cons, List.map_nil]); first | done | rfl | (simp only [List.length_drop, List.length_take]; rfl)) ?_
                   with_reducible refine (midrangeref04_Own.calls _ _ x714000_3 x714001_3 t731 t734 _ ?side1 ?side2 A64.out).mono ?_
                   (case side1 => exact pc_ (Kd.R_reads' HO_714000.out).2.2)
                   (case side2 => exact (Kd.R_reads' HO_714000.out).2.1)
                   rintro e w68 ⟨v732, rfl, ho0, hb⟩
                   refine ⟨_, rfl, ?_⟩
                   replace HO_5 := Aside0.mk (Kd.R_below (rk_ HO_5) hb)
                   replace HO_6 := Aside0.mk (Kd.R_below (rk_ HO_6) hb)
                   have HO733 := Aside0.mk (Kd.R_lower (Kd.R_new' (Kd.R_new' ho0 (Kd.R_lt (rk_ HO_714000))) (Kd.R_lt (rk_ HO_729000))) (below_size (pb_ HB)))
                   replace HO_714000 := Aside0.mk (Kd.R_elder' (rk_ HO_714000) (Kd.R_base ho0) hb)
                   replace HO_729000 := Aside0.mk (Kd.R_elder' (rk_ HO_729000) (Kd.R_base ho0) hb)
                   replace BK700 := kb_ BK700 hb
                   replace BK713 := kb_ BK713 hb
                   replace BK728 := kb_ BK728 hb
                   replace HB := sb_ HB hb
                   (try clear hb)
                   (try clear hb2)
                   (try clear hk)
                   (try clear hi)
                   (try clear ho0)
                   obtain ⟨Ao69, co69, eo69⟩ := Kd.R_slice HO733.out
                   (first | subst eo69 | (injection eo69 with f1_ f2_ f3_; have f4_ := f1_.symm; have f5_ := f3_.symm; clear f1_ f2_ f3_; subst f4_; subst f5_))
                   refine hK.out _ _ ⟨cy_ BK713 0, cy_ BK713 1, (pw_cell_below HB.out hw735_0), (pw_cell_below HB.out hw735_1), (pw_cell_below HB.out hw735_2), (pw_cell_below HB.out hw735_3), (pw_cell_below HB.out hw735_4)⟩ (fun hHeld => ?_)
                   clear hK K
                   refine nn_ 87 ?_
                   refine two_ (i := 7) (j := 12) (Ni := some 93) (Nj := some 13) #[true, true, true, true, true, true, true, true, false, false, false, false, false, false, false, false] #[true, true, true, true, true, true, true, false, false, false, false, false, true, false, false, false] rfl rfl rfl rfl (two_of HT_.out (by kernel_rfl)) (by decide) (by decide) (fun K hK => ?_) (fun K hK => ?_)
                   ·
                    refine goes_ Try.func12 (by kernel_rfl) rfl #[.agg #[.slice Ao69 t731.length co69, .int .i64 t734], .int .i64 ((rd_T66 l1 x9_3).f3)] (by rfl) rfl rfl (by (try simp only [List.map_toArray, List.map_cons, List.map_nil]); first | done | rfl | (simp only [List.length_drop, List.length_take]; rfl)) ?_
                    with_reducible refine (segment_Created.calls kj39 _ _ t731 t734 ((rd_T66 l1 x9_3).f3) t736 t739 t740 t741 _ ?side1 ?side2 A65.out).mono ?_
                    (case side1 => exact pc_ (Kd.R_reads' HO733.out).2.2)
                    (case side2 => exact (Kd.R_reads' HO733.out).2.1)
                    rintro e w70 ⟨v737, rfl, ho0, hb⟩
                    refine ⟨_, rfl, ?_⟩
                    replace HO_5 := Aside0.mk (Kd.R_below (rk_ HO_5) hb)
                    replace HO_6 := Aside0.mk (Kd.R_below (rk_ HO_6) hb)
                    have HO738 := Aside0.mk (Kd.R_lower (Kd.R_new' (Kd.R_new' (Kd.R_new' ho0 (Kd.R_lt (rk_ HO_714000))) (Kd.R_lt (rk_ HO_729000))) (Kd.R_lt (rk_ HO733))) (below_size (pb_ HB)))
                    replace HO_714000 := Aside0.mk (Kd.R_elder' (rk_ HO_714000) (Kd.R_base ho0) hb)
                    replace HO_729000 := Aside0.mk (Kd.R_elder' (rk_ HO_729000) (Kd.R_base ho0) hb)
                    replace HO733 := Aside0.mk (Kd.R_elder' (rk_ HO733) (Kd.R_base ho0) hb)
                    replace BK700 := kb_ BK700 hb
                    replace BK713 := kb_ BK713 hb
                    replace BK728 := kb_ BK728 hb
                    replace HB := sb_ HB hb
                    (try clear hb)
                    (try clear hb2)
                    (try clear hk)
                    (try clear hi)
                    (try clear ho0)
                    refine hK.out _ _ ⟨cy_ BK713 0, cy_ BK713 1, (pw_cell_below HB.out hw735_0), (pw_cell_below HB.out hw735_1), (pw_cell_below HB.out hw735_2), (pw_cell_below HB.out hw735_3), (pw_cell_below HB.out hw735_4)⟩ (fun hHeld => ?_)
                    clear hK K
                    refine nn_ 93 ?_
                    refine pu_ 8 85 HT_ ?_
                    refine pu_ 9 94 HT_ ?_
                    refine pu_ 10 95 HT_ ?_
                    refine pu_ 11 96 HT_ ?_
                    refine one_ (i := 12) (N := some 13) #[true, true, true, true, true, true, true, true, true, true, true, true, true, false, false, false] rfl rfl (one_of HT_.out (by kernel_rfl)) (by decide) (fun K hK => ?_)
                    refine box_step ?hg (N := 13) ?hd (cs := #[.slice none 0 0, .int .i64 0]) (t := 24) ?hr ?_; (case hd => rfl); (case hg => rfl); (case hr => first | (go_simp; done) | (go_simp; rfl))
                    intro gb742 hg w71 hbox hb
                    replace HO_5 := Aside0.mk (Kd.R_below (rk_ HO_5) hb)
                    replace HO_6 := Aside0.mk (Kd.R_below (rk_ HO_6) hb)
                    replace HO_714000 := Aside0.mk (Kd.R_below (rk_ HO_714000) hb)
                    replace HO_729000 := Aside0.mk (Kd.R_below (rk_ HO_729000) hb)
                    replace HO733 := Aside0.mk (Kd.R_below (rk_ HO733) hb)
                    replace HO738 := Aside0.mk (Kd.R_below (rk_ HO738) hb)
                    have BK742 := Aside0.mk (hbox)
                    have GW742 := gw_ hg HB
                    have GE742 := gw_ hg HB
                    replace HB := sb_ HB hb
                    have NB700_742 := nl_ hg BK700
                    have NB742_700 := ng_ hg BK700
                    replace BK700 := kb_ BK700 hb
                    have NB713_742 := nl_ hg BK713
                    have NB742_713 := ng_ hg BK713
                    replace BK713 := kb_ BK713 hb
                    have NB728_742 := nl_ hg BK728
                    have NB742_728 := ng_ hg BK728
                    replace BK728 := kb_ BK728 hb
                    clear hb hbox hg
                    refine hK.out _ _ ⟨cy_ BK713 0, cy_ BK713 1, (pw_cell_below HB.out hw735_0), (pw_cell_below HB.out hw735_1), (pw_cell_below HB.out hw735_2), (pw_cell_below HB.out hw735_3), (pw_cell_below HB.out hw735_4)⟩ (fun hHeld => ?_)
                    clear hK K
                    refine nn_ 13 ?_
                    exact norm_ (by simp only [putAll, Act.put, List.setIfInBounds_toArray, List.set_cons_zero, List.set_cons_succ]) (hCont (.slice Ao69 t731.length co69, v737, gb742) _ ⟨hHeld, (by (with_reducible repeat (first | apply Kd.R_alloc | apply Kd.R_drewN | apply Kd.R_drew)); exact Kd.R_mono HO733.out (fun _ hk => ⟨hk.2, ⟨hk.1.1.2, hk.1.2⟩⟩)), (by (with_reducible repeat (first | apply Kd.R_alloc | apply Kd.R_drewN | apply Kd.R_drew)); exact Kd.R_mono HO738.out (fun _ hk => ⟨hk.2, ⟨hk.1.1.2, hk.1.2⟩⟩)), (rk_ HO_5), (rk_ HO_6), (by (with_reducible repeat (first | apply Kd.R_alloc | apply Kd.R_drewN | apply Kd.R_drew)); exact Kd.R_mono HO_714000.out (fun _ hk => ⟨hk.1.2, ⟨hk.2, hk.1.1⟩⟩)), (by (with_reducible repeat (first | apply Kd.R_alloc | apply Kd.R_drewN | apply Kd.R_drew)); exact Kd.R_mono HO_729000.out (fun _ hk => ⟨hk.1.2, ⟨hk.2, hk.1.1⟩⟩)), (pk_ BK700), (pk_ BK713), (pk_ BK728), (pk_ BK742), GW742.out, GE742.out, NB700_742.out, NB742_700.out, NB713_742.out, NB742_713.out, NB728_742.out, NB742_728.out, (pb_ HB)⟩)
                   skip
                   refine box_step ?hg (N := 13) ?hd (cs := #[.slice none 0 0, .int .i64 0]) (t := 24) ?hr ?_; (case hd => rfl); (case hg => rfl); (case hr => first | (go_simp; done) | (go_simp; rfl))
                   intro gb742 hg w69 hbox hb
                   replace HO_5 := Aside0.mk (Kd.R_below (rk_ HO_5) hb)
                   replace HO_6 := Aside0.mk (Kd.R_below (rk_ HO_6) hb)
                   replace HO_714000 := Aside0.mk (Kd.R_below (rk_ HO_714000) hb)
                   replace HO_729000 := Aside0.mk (Kd.R_below (rk_ HO_729000) hb)
                   replace HO733 := Aside0.mk (Kd.R_below (rk_ HO733) hb)
                   have BK742 := Aside0.mk (hbox)
                   have GW742 := gw_ hg HB
                   have GE742 := gw_ hg HB
                   replace HB := sb_ HB hb
                   have NB700_742 := nl_ hg BK700
                   have NB742_700 := ng_ hg BK700
                   replace BK700 := kb_ BK700 hb
                   have NB713_742 := nl_ hg BK713
                   have NB742_713 := ng_ hg BK713
                   replace BK713 := kb_ BK713 hb
                   have NB728_742 := nl_ hg BK728
                   have NB742_728 := ng_ hg BK728
                   replace BK728 := kb_ BK728 hb
                   clear hb hbox hg
                   obtain ⟨Ao70, co70, eo70⟩ := Kd.R_slice HO733.out
                   (first | subst eo70 | (injection eo70 with f1_ f2_ f3_; have f4_ := f1_.symm; have f5_ := f3_.symm; clear f1_ f2_ f3_; subst f4_; subst f5_))
                   refine hK.out _ _ ⟨cy_ BK713 0, cy_ BK713 1, (pw_cell_below HB.out hw735_0), (pw_cell_below HB.out hw735_1), (pw_cell_below HB.out hw735_2), (pw_cell_below HB.out hw735_3), (pw_cell_below HB.out hw735_4)⟩ (fun hHeld => ?_)
                   clear hK K
                   refine nn_ 13 ?_
                   refine one_ (i := 7) (N := some 93) #[true, true, true, true, true, true, true, true, false, false, false, false, true, false, false, false] rfl rfl (one_of HT_.out (by kernel_rfl)) (by decide) (fun K hK => ?_)
                   refine goes_ Try.func12 (by kernel_rfl) rfl #[.agg #[.slice Ao70 t731.length co70, .int .i64 t734], .int .i64 ((rd_T66 l1 x9_3).f3)] (by rfl) rfl rfl (by (try simp only [List.map_toArray, List.map_cons, List.map_nil]); first | done | rfl | (simp only [List.length_drop, List.length_take]; rfl)) ?_
                   with_reducible refine (segment_Created.calls kj39 _ _ t731 t734 ((rd_T66 l1 x9_3).f3) t736 t739 t740 t741 _ ?side1 ?side2 A65.out).mono ?_
                   (case side1 => exact pc_ (Kd.R_reads' HO733.out).2.2)
                   (case side2 => exact (Kd.R_reads' HO733.out).2.1)
                   rintro e w71 ⟨v737, rfl, ho0, hb⟩
                   refine ⟨_, rfl, ?_⟩
                   replace HO_5 := Aside0.mk (Kd.R_below (rk_ HO_5) hb)
                   replace HO_6 := Aside0.mk (Kd.R_below (rk_ HO_6) hb)
                   have HO738 := Aside0.mk (Kd.R_lower (Kd.R_new' (Kd.R_new' (Kd.R_new' ho0 (Kd.R_lt (rk_ HO_714000))) (Kd.R_lt (rk_ HO_729000))) (Kd.R_lt (rk_ HO733))) (below_size (pb_ HB)))
                   replace HO_714000 := Aside0.mk (Kd.R_elder' (rk_ HO_714000) (Kd.R_base ho0) hb)
                   replace HO_729000 := Aside0.mk (Kd.R_elder' (rk_ HO_729000) (Kd.R_base ho0) hb)
                   replace HO733 := Aside0.mk (Kd.R_elder' (rk_ HO733) (Kd.R_base ho0) hb)
                   replace BK700 := kb_ BK700 hb
                   replace BK713 := kb_ BK713 hb
                   replace BK728 := kb_ BK728 hb
                   replace BK742 := kb_ BK742 hb
                   replace HB := sb_ HB hb
                   (try clear hb)
                   (try clear hb2)
                   (try clear hk)
                   (try clear hi)
                   (try clear ho0)
                   refine hK.out _ _ ⟨cy_ BK713 0, cy_ BK713 1, (pw_cell_below HB.out hw735_0), (pw_cell_below HB.out hw735_1), (pw_cell_below HB.out hw735_2), (pw_cell_below HB.out hw735_3), (pw_cell_below HB.out hw735_4)⟩ (fun hHeld => ?_)
                   clear hK K
                   refine nn_ 93 ?_
                   refine pu_ 8 85 HT_ ?_
                   refine pu_ 9 94 HT_ ?_
                   refine pu_ 10 95 HT_ ?_
                   refine pu_ 11 96 HT_ ?_
                   exact norm_ (by simp only [putAll, Act.put, List.setIfInBounds_toArray, List.set_cons_zero, List.set_cons_succ]) (hCont (.slice Ao70 t731.length co70, v737, gb742) _ ⟨hHeld, (by (with_reducible repeat (first | apply Kd.R_alloc | apply Kd.R_drewN | apply Kd.R_drew)); exact Kd.R_mono HO733.out (fun _ hk => ⟨hk.2, ⟨hk.1.1.2, hk.1.2⟩⟩)), (by (with_reducible repeat (first | apply Kd.R_alloc | apply Kd.R_drewN | apply Kd.R_drew)); exact Kd.R_mono HO738.out (fun _ hk => ⟨hk.2, ⟨hk.1.1.2, hk.1.2⟩⟩)), (rk_ HO_5), (rk_ HO_6), (by (with_reducible repeat (first | apply Kd.R_alloc | apply Kd.R_drewN | apply Kd.R_drew)); exact Kd.R_mono HO_714000.out (fun _ hk => ⟨hk.1.2, ⟨hk.2, hk.1.1⟩⟩)), (by (with_reducible repeat (first | apply Kd.R_alloc | apply Kd.R_drewN | apply Kd.R_drew)); exact Kd.R_mono HO_729000.out (fun _ hk => ⟨hk.1.2, ⟨hk.2, hk.1.1⟩⟩)), (pk_ BK700), (pk_ BK713), (pk_ BK728), (pk_ BK742), GW742.out, GE742.out, NB700_742.out, NB742_700.out, NB713_742.out, NB742_713.out, NB728_742.out, NB742_728.out, (pb_ HB)⟩)
                  skip
                  refine box_step ?hg (N := 13) ?hd (cs := #[.slice none 0 0, .int .i64 0]) (t := 24) ?hr ?_; (case hd => rfl); (case hg => rfl); (case hr => first | (go_simp; done) | (go_simp; rfl))
                  intro gb742 hg w68 hbox hb
                  replace HO_5 := Aside0.mk (Kd.R_below (rk_ HO_5) hb)
                  replace HO_6 := Aside0.mk (Kd.R_below (rk_ HO_6) hb)
                  replace HO_714000 := Aside0.mk (Kd.R_below (rk_ HO_714000) hb)
                  replace HO_729000 := Aside0.mk (Kd.R_below (rk_ HO_729000) hb)
                  have BK742 := Aside0.mk (hbox)
                  have GW742 := gw_ hg HB
                  have GE742 := gw_ hg HB
                  replace HB := sb_ HB hb
                  have NB700_742 := nl_ hg BK700
                  have NB742_700 := ng_ hg BK700
                  replace BK700 := kb_ BK700 hb
                  have NB713_742 := nl_ hg BK713
                  have NB742_713 := ng_ hg BK713
                  replace BK713 := kb_ BK713 hb
                  have NB728_742 := nl_ hg BK728
                  have NB742_728 := ng_ hg BK728
                  replace BK728 := kb_ BK728 hb
                  clear hb hbox hg
                  refine hK.out _ _ ⟨cy_ BK713 0, cy_ BK713 1, (pw_cell_below HB.out hw735_0), (pw_cell_below HB.out hw735_1), (pw_cell_below HB.out hw735_2), (pw_cell_below HB.out hw735_3), (pw_cell_below HB.out hw735_4)⟩ (fun hHeld => ?_)
                  clear hK K
                  refine nn_ 13 ?_
                  refine one_ (i := 1) (N := some 87) #[true, true, true, true, true, true, true, false, false, false, false, false, true, false, false, false] rfl rfl (one_of HT_.out (by kernel_rfl)) (by decide) (fun K hK => ?_)
                  refine goes_ Try.func13 (by kernel_rfl) rfl #[.agg #[.slice Ao41 x714000_3.length co41, .int .i64 x714001_3]] (by rfl) rfl rfl (by (try simp only [List.map_toArray, List.map_cons, List.map_nil]); first | done | rfl | (simp only [List.length_drop, List.length_take]; rfl)) ?_
                  with_reducible refine (midrangeref04_Own.calls _ _ x714000_3 x714001_3 t731 t734 _ ?side1 ?side2 A64.out).mono ?_
                  (case side1 => exact pc_ (Kd.R_reads' HO_714000.out).2.2)
                  (case side2 => exact (Kd.R_reads' HO_714000.out).2.1)
                  rintro e w69 ⟨v732, rfl, ho0, hb⟩
                  refine ⟨_, rfl, ?_⟩
                  replace HO_5 := Aside0.mk (Kd.R_below (rk_ HO_5) hb)
                  replace HO_6 := Aside0.mk (Kd.R_below (rk_ HO_6) hb)
                  have HO733 := Aside0.mk (Kd.R_lower (Kd.R_new' (Kd.R_new' ho0 (Kd.R_lt (rk_ HO_714000))) (Kd.R_lt (rk_ HO_729000))) (below_size (pb_ HB)))
                  replace HO_714000 := Aside0.mk (Kd.R_elder' (rk_ HO_714000) (Kd.R_base ho0) hb)
                  replace HO_729000 := Aside0.mk (Kd.R_elder' (rk_ HO_729000) (Kd.R_base ho0) hb)
                  replace BK700 := kb_ BK700 hb
                  replace BK713 := kb_ BK713 hb
                  replace BK728 := kb_ BK728 hb
                  replace BK742 := kb_ BK742 hb
                  replace HB := sb_ HB hb
                  (try clear hb)
                  (try clear hb2)
                  (try clear hk)
                  (try clear hi)
                  (try clear ho0)
                  obtain ⟨Ao70, co70, eo70⟩ := Kd.R_slice HO733.out
                  (first | subst eo70 | (injection eo70 with f1_ f2_ f3_; have f4_ := f1_.symm; have f5_ := f3_.symm; clear f1_ f2_ f3_; subst f4_; subst f5_))
                  refine hK.out _ _ ⟨cy_ BK713 0, cy_ BK713 1, (pw_cell_below HB.out hw735_0), (pw_cell_below HB.out hw735_1), (pw_cell_below HB.out hw735_2), (pw_cell_below HB.out hw735_3), (pw_cell_below HB.out hw735_4)⟩ (fun hHeld => ?_)
                  clear hK K
                  refine nn_ 87 ?_
                  refine one_ (i := 7) (N := some 93) #[true, true, true, true, true, true, true, true, false, false, false, false, true, false, false, false] rfl rfl (one_of HT_.out (by kernel_rfl)) (by decide) (fun K hK => ?_)
                  refine goes_ Try.func12 (by kernel_rfl) rfl #[.agg #[.slice Ao70 t731.length co70, .int .i64 t734], .int .i64 ((rd_T66 l1 x9_3).f3)] (by rfl) rfl rfl (by (try simp only [List.map_toArray, List.map_cons, List.map_nil]); first | done | rfl | (simp only [List.length_drop, List.length_take]; rfl)) ?_
                  with_reducible refine (segment_Created.calls kj39 _ _ t731 t734 ((rd_T66 l1 x9_3).f3) t736 t739 t740 t741 _ ?side1 ?side2 A65.out).mono ?_
                  (case side1 => exact pc_ (Kd.R_reads' HO733.out).2.2)
                  (case side2 => exact (Kd.R_reads' HO733.out).2.1)
                  rintro e w71 ⟨v737, rfl, ho0, hb⟩
                  refine ⟨_, rfl, ?_⟩
                  replace HO_5 := Aside0.mk (Kd.R_below (rk_ HO_5) hb)
                  replace HO_6 := Aside0.mk (Kd.R_below (rk_ HO_6) hb)
                  have HO738 := Aside0.mk (Kd.R_lower (Kd.R_new' (Kd.R_new' (Kd.R_new' ho0 (Kd.R_lt (rk_ HO_714000))) (Kd.R_lt (rk_ HO_729000))) (Kd.R_lt (rk_ HO733))) (below_size (pb_ HB)))
                  replace HO_714000 := Aside0.mk (Kd.R_elder' (rk_ HO_714000) (Kd.R_base ho0) hb)
                  replace HO_729000 := Aside0.mk (Kd.R_elder' (rk_ HO_729000) (Kd.R_base ho0) hb)
                  replace HO733 := Aside0.mk (Kd.R_elder' (rk_ HO733) (Kd.R_base ho0) hb)
                  replace BK700 := kb_ BK700 hb
                  replace BK713 := kb_ BK713 hb
                  replace BK728 := kb_ BK728 hb
                  replace BK742 := kb_ BK742 hb
                  replace HB := sb_ HB hb
                  (try clear hb)
                  (try clear hb2)
                  (try clear hk)
                  (try clear hi)
                  (try clear ho0)
                  refine hK.out _ _ ⟨cy_ BK713 0, cy_ BK713 1, (pw_cell_below HB.out hw735_0), (pw_cell_below HB.out hw735_1), (pw_cell_below HB.out hw735_2), (pw_cell_below HB.out hw735_3), (pw_cell_below HB.out hw735_4)⟩ (fun hHeld => ?_)
                  clear hK K
                  refine nn_ 93 ?_
                  refine pu_ 8 85 HT_ ?_
                  refine pu_ 9 94 HT_ ?_
                  refine pu_ 10 95 HT_ ?_
                  refine pu_ 11 96 HT_ ?_
                  exact norm_ (by simp only [putAll, Act.put, List.setIfInBounds_toArray, List.set_cons_zero, List.set_cons_succ]) (hCont (.slice Ao70 t731.length co70, v737, gb742) _ ⟨hHeld, (by (with_reducible repeat (first | apply Kd.R_alloc | apply Kd.R_drewN | apply Kd.R_drew)); exact Kd.R_mono HO733.out (fun _ hk => ⟨hk.2, ⟨hk.1.1.2, hk.1.2⟩⟩)), (by (with_reducible repeat (first | apply Kd.R_alloc | apply Kd.R_drewN | apply Kd.R_drew)); exact Kd.R_mono HO738.out (fun _ hk => ⟨hk.2, ⟨hk.1.1.2, hk.1.2⟩⟩)), (rk_ HO_5), (rk_ HO_6), (by (with_reducible repeat (first | apply Kd.R_alloc | apply Kd.R_drewN | apply Kd.R_drew)); exact Kd.R_mono HO_714000.out (fun _ hk => ⟨hk.1.2, ⟨hk.2, hk.1.1⟩⟩)), (by (with_reducible repeat (first | apply Kd.R_alloc | apply Kd.R_drewN | apply Kd.R_drew)); exact Kd.R_mono HO_729000.out (fun _ hk => ⟨hk.1.2, ⟨hk.2, hk.1.1⟩⟩)), (pk_ BK700), (pk_ BK713), (pk_ BK728), (pk_ BK742), GW742.out, GE742.out, NB700_742.out, NB742_700.out, NB713_742.out, NB742_713.out, NB728_742.out, NB742_728.out, (pb_ HB)⟩)
                 clear HO_5 HO_6 HO_714000 HO_729000 BK700 BK713 BK728 HB
                 rintro ⟨v732, v737, gb742⟩ w72 ⟨hHeld, HO733, HO738, HO_5, HO_6, HO_714000, HO_729000, BK700, BK713, BK728, BK742, GW742, GE742, NB700_742, NB742_700, NB713_742, NB742_713, NB728_742, NB742_728, HB⟩
                 try dsimp only at hHeld HO733 HO738 HO_5 HO_6 HO_714000 HO_729000 BK700 BK713 BK728 BK742 GW742 GE742 NB700_742 NB742_700 NB713_742 NB742_713 NB728_742 NB742_728 HB
                 replace HO733 := Aside0.mk HO733
                 replace HO738 := Aside0.mk HO738
                 replace HO_5 := Aside0.mk HO_5
                 replace HO_6 := Aside0.mk HO_6
                 replace HO_714000 := Aside0.mk HO_714000
                 replace HO_729000 := Aside0.mk HO_729000
                 replace BK700 := Aside0.mk BK700
                 replace BK713 := Aside0.mk BK713
                 replace BK728 := Aside0.mk BK728
                 replace BK742 := Aside0.mk BK742
                 replace GW742 := Aside0.mk GW742
                 replace GE742 := Aside0.mk GE742
                 replace NB700_742 := Aside0.mk NB700_742
                 replace NB742_700 := Aside0.mk NB742_700
                 replace NB713_742 := Aside0.mk NB713_742
                 replace NB742_713 := Aside0.mk NB742_713
                 replace NB728_742 := Aside0.mk NB728_742
                 replace NB742_728 := Aside0.mk NB742_728
                 replace HB := Aside0.mk HB
                 obtain ⟨Ao73, co73, eo73⟩ := Kd.R_slice HO738.out
                 (first | subst eo73 | (injection eo73 with f1_ f2_ f3_; have f4_ := f1_.symm; have f5_ := f3_.symm; clear f1_ f2_ f3_; subst f4_; subst f5_))
                 refine nm_ ?_
                 refine one_ (i := 13) (N := none) #[true, true, true, true, true, true, true, true, true, true, true, true, true, true, false, false] rfl rfl (one_of HT_.out (by kernel_rfl)) (by decide) (fun K hK => ?_)
                 have hs74 : w72.cell? ⟨gb742, 0, none⟩ = some (.slice none 0 0) := (blk_cell BK742.out 0).trans rfl
                 have hfs74 := blk_frozen BK742.out 0
                 have hns74_0 := NB700_742.out
                 have hns74_1 := NB713_742.out
                 have hns74_2 := NB728_742.out
                 have hms74_0 := NB742_700.out
                 have hms74_1 := NB742_713.out
                 have hms74_2 := NB742_728.out
                 have hs75 : w72.cell? ⟨gb742, 1, none⟩ = some (.int .i64 0) := (blk_cell BK742.out 1).trans rfl
                 have hfs75 := blk_frozen BK742.out 1
                 have hns75_0 := NB700_742.out
                 have hns75_1 := NB713_742.out
                 have hns75_2 := NB728_742.out
                 have hms75_0 := NB742_700.out
                 have hms75_1 := NB742_713.out
                 have hms75_2 := NB742_728.out
                 refine skip_ (w1 := ?_) (by rfl) rfl ?_ ?_
                 rotate_left
                 ·
                  go_simp
                  rfl
                 refine hK.out _ _ ⟨((cell_far (p := ⟨gb742, _, none⟩) NB713_742.out _).trans (((cell_far (p := ⟨gb742, _, none⟩) NB713_742.out _).trans (hHeld.1)))), ((cell_far (p := ⟨gb742, _, none⟩) NB713_742.out _).trans (((cell_far (p := ⟨gb742, _, none⟩) NB713_742.out _).trans (hHeld.2.1)))), ((cell_far (p := ⟨gb742, _, none⟩) (nf_ hw735_0 GW742) _).trans (((cell_far (p := ⟨gb742, _, none⟩) (nf_ hw735_0 GW742) _).trans (hHeld.2.2.1)))), ((cell_far (p := ⟨gb742, _, none⟩) (nf_ hw735_1 GW742) _).trans (((cell_far (p := ⟨gb742, _, none⟩) (nf_ hw735_1 GW742) _).trans (hHeld.2.2.2.1)))), ((cell_far (p := ⟨gb742, _, none⟩) (nf_ hw735_2 GW742) _).trans (((cell_far (p := ⟨gb742, _, none⟩) (nf_ hw735_2 GW742) _).trans (hHeld.2.2.2.2.1)))), ((cell_far (p := ⟨gb742, _, none⟩) (nf_ hw735_3 GW742) _).trans (((cell_far (p := ⟨gb742, _, none⟩) (nf_ hw735_3 GW742) _).trans (hHeld.2.2.2.2.2.1)))), ((cell_far (p := ⟨gb742, _, none⟩) (nf_ hw735_4 GW742) _).trans (((cell_far (p := ⟨gb742, _, none⟩) (nf_ hw735_4 GW742) _).trans (hHeld.2.2.2.2.2.2))))⟩ (fun hHeld => ?_)
                 clear hK K
                 refine pu_ 14 14 HT_ ?_
                 refine pu_ 15 15 HT_ ?_
                 refine done_ (done_of HT_.out (by kernel_rfl)) ?_
                 go_upto_region 20 with (fail)
                 go_cut [104] (fun v104 wc => ∃ (kq : Nat) (x104_65 : Bool), v104 = .bool x104_65 ∧ Aside0 (midrangelaw04_SegmentNumbers.j4 kq l1 x5_3 x6_3 x9_3 t740 x104_65 t722 t725 = some r) ∧ Aside0 (kq ≤ kj39) ∧ Aside0 (Kd.R (Kd.int .i64) 3 wc w.heap.size (fun k_ => some k_ ≠ (u6 : Value).ownBlock) u5 x5_3) ∧ Aside0 (Kd.R (Kd.int .i64) 3 wc w.heap.size (fun k_ => some k_ ≠ (u5 : Value).ownBlock) u6 x6_3) ∧ Aside0 (Kd.R k56 56 wc w.heap.size (fun k_ => some k_ ≠ ((.slice Ao51 t722.length co51) : Value).ownBlock ∧ some k_ ≠ ((.slice Ao73 t736.length co73) : Value).ownBlock) (.slice Ao41 x714000_3.length co41) x714000_3) ∧ Aside0 (Kd.R k56 56 wc w.heap.size (fun k_ => some k_ ≠ ((.slice Ao41 x714000_3.length co41) : Value).ownBlock ∧ some k_ ≠ ((.slice Ao73 t736.length co73) : Value).ownBlock) (.slice Ao51 t722.length co51) t722) ∧ Aside0 (Kd.R k56 56 wc w.heap.size (fun k_ => some k_ ≠ ((.slice Ao41 x714000_3.length co41) : Value).ownBlock ∧ some k_ ≠ ((.slice Ao51 t722.length co51) : Value).ownBlock) (.slice Ao73 t736.length co73) t736) ∧ Aside0 (wc.heap[gb700]? = some (.cells #[(.slice A0_0 l0_0.length c0_0), .int .i64 a0_1] 24 (0, 0))) ∧ Aside0 (wc.heap[gb713]? = some (.cells #[(.slice Ao41 x714000_3.length co41), .int .i64 x714001_3] 24 (0, 0))) ∧ Aside0 (wc.heap[gb728]? = some (.cells #[(.slice Ao51 t722.length co51), .int .i64 t725] 24 (0, 0))) ∧ Aside0 (wc.heap[gb742]? = some (.cells #[(.slice Ao73 t736.length co73), .int .i64 t739] 24 (0, 0))) ∧ Aside0 (Below w.heap.size w wc))
                 case first =>
                  have H := HC66.out
                  clear HC66
                  by_cases c76 : t741 = 0
                  ·
                   rw [if_pos c76] at H
                   have c76b0 : (t741 == 0) = true := beq_iff_eq.mpr c76
                   have c76b1 : (t741 != 0) = false := bne_eq_false_iff_eq.mpr c76
                   clear c76
                   (first | rw [c76b0] | (simp only [i64_w, i32_w]; rw [c76b0]) | skip)
                   replace H := Option.bind_eq_some_iff.mp H
                   obtain ⟨t743, A770, H⟩ := H
                   replace H : (midrangelaw04_SegmentNumbers.j4 kj39 l1 x5_3 x6_3 x9_3 t740 (t743 != (-1)) t722 t725) = some r := H
                   have A77 := Aside0.mk A770
                   clear A770
                   have H' := Aside0.mk H
                   clear H
                   obtain ⟨Ao78, co78, eo78⟩ := Kd.R_slice HO_6.out
                   subst eo78
                   go_wp2_with (first | (go_at_call 36; (with_reducible refine (midrangebase_IndexOf.calls kj39 _ _ x6_3 t740 t743 _ ?side1 ?side2 A77.out).mono ?_); (case side1 => refine (Kd.R_reads' (e := 3) (base := w.heap.size) (ok := fun k_ => some k_ ≠ (u5 : Value).ownBlock) (n := x6_3.length) (c := co78) ?_).2.2; exact (by (with_reducible repeat (first | apply Kd.R_alloc | apply Kd.R_drewN | apply Kd.R_drew)); exact (Kd.R_mono (Kd.R_far (p := ⟨gb742, 1, none⟩) (Kd.R_far (p := ⟨gb742, 0, none⟩) (Kd.R_types HO_6.out BK742.out (by decide)) (fun _ hk => hk.2) (.slice Ao73 t736.length co73)) (fun _ hk => hk.2) (.int .i64 t739)) (fun _ h_ => h_.1)))); (case side2 => exact (Kd.R_reads' HO_6.out).2.1); rintro e w' ⟨rfl, ⟨nd, rfl⟩⟩))
                   go_meet
                   case rel => exact ⟨_, ((t743 != (-1))), rl_, H', ⟨by have := HJ4.out; have := HK2.out; have := HK3.out; have := HJ39.out; first | omega | exact Nat.le_refl _⟩, ⟨by (with_reducible repeat (first | apply Kd.R_alloc | apply Kd.R_drewN | apply Kd.R_drew)); exact Kd.R_mono (Kd.R_far (p := ⟨gb742, 1, none⟩) (Kd.R_far (p := ⟨gb742, 0, none⟩) (Kd.R_types HO_5.out BK742.out (by decide)) (fun _ hk => hk.2) (.slice Ao73 t736.length co73)) (fun _ hk => hk.2) (.int .i64 t739)) (fun _ hk => hk.1)⟩, ⟨by (with_reducible repeat (first | apply Kd.R_alloc | apply Kd.R_drewN | apply Kd.R_drew)); exact Kd.R_mono (Kd.R_far (p := ⟨gb742, 1, none⟩) (Kd.R_far (p := ⟨gb742, 0, none⟩) (Kd.R_types HO_6.out BK742.out (by decide)) (fun _ hk => hk.2) (.slice Ao73 t736.length co73)) (fun _ hk => hk.2) (.int .i64 t739)) (fun _ hk => hk.1)⟩, ⟨by (with_reducible repeat (first | apply Kd.R_alloc | apply Kd.R_drewN | apply Kd.R_drew)); exact Kd.R_mono (Kd.R_far (p := ⟨gb742, 1, none⟩) (Kd.R_far (p := ⟨gb742, 0, none⟩) (Kd.R_types HO_714000.out BK742.out (by decide)) (fun _ hk => hk.2) (.slice Ao73 t736.length co73)) (fun _ hk => hk.2) (.int .i64 t739)) (fun _ hk => ⟨hk.1.2.2, hk.1.2.1⟩)⟩, ⟨by (with_reducible repeat (first | apply Kd.R_alloc | apply Kd.R_drewN | apply Kd.R_drew)); exact Kd.R_mono (Kd.R_far (p := ⟨gb742, 1, none⟩) (Kd.R_far (p := ⟨gb742, 0, none⟩) (Kd.R_types HO_729000.out BK742.out (by decide)) (fun _ hk => hk.2) (.slice Ao73 t736.length co73)) (fun _ hk => hk.2) (.int .i64 t739)) (fun _ hk => ⟨hk.1.2.2, hk.1.2.1⟩)⟩, ⟨by (with_reducible repeat (first | apply Kd.R_alloc | apply Kd.R_drewN | apply Kd.R_drew)); exact Kd.R_mono (Kd.R_far (p := ⟨gb742, 1, none⟩) (Kd.R_far (p := ⟨gb742, 0, none⟩) (Kd.R_types HO738.out BK742.out (by decide)) (fun _ hk => hk.2) (.slice Ao73 t736.length co73)) (fun _ hk => hk.2) (.int .i64 t739)) (fun _ hk => ⟨hk.1.2.1, hk.1.2.2⟩)⟩, ⟨by (with_reducible repeat (first | refine blk_drewN ?_ _ | refine blk_drew ?_ | refine blk_alloc ?_ _)); refine blk_far ?_ NB700_742.out _; (with_reducible repeat (first | refine blk_drewN ?_ _ | refine blk_drew ?_ | refine blk_alloc ?_ _)); refine blk_far ?_ NB700_742.out _; (with_reducible repeat (first | refine blk_drewN ?_ _ | refine blk_drew ?_ | refine blk_alloc ?_ _)); exact BK700.out⟩, ⟨by (with_reducible repeat (first | refine blk_drewN ?_ _ | refine blk_drew ?_ | refine blk_alloc ?_ _)); refine blk_far ?_ NB713_742.out _; (with_reducible repeat (first | refine blk_drewN ?_ _ | refine blk_drew ?_ | refine blk_alloc ?_ _)); refine blk_far ?_ NB713_742.out _; (with_reducible repeat (first | refine blk_drewN ?_ _ | refine blk_drew ?_ | refine blk_alloc ?_ _)); exact BK713.out⟩, ⟨by (with_reducible repeat (first | refine blk_drewN ?_ _ | refine blk_drew ?_ | refine blk_alloc ?_ _)); refine blk_far ?_ NB728_742.out _; (with_reducible repeat (first | refine blk_drewN ?_ _ | refine blk_drew ?_ | refine blk_alloc ?_ _)); refine blk_far ?_ NB728_742.out _; (with_reducible repeat (first | refine blk_drewN ?_ _ | refine blk_drew ?_ | refine blk_alloc ?_ _)); exact BK728.out⟩, ⟨bq_ BK742⟩, ⟨pb_ HB⟩⟩
                  rw [if_neg c76] at H
                  have c76b0 : (t741 == 0) = false := beq_eq_false_iff_ne.mpr c76
                  have c76b1 : (t741 != 0) = true := bne_iff_ne.mpr c76
                  (first | rw [c76b0] | (simp only [i64_w, i32_w]; rw [c76b0]) | skip)
                  have H' := Aside0.mk H
                  clear H
                  go_wp2
                  go_meet
                  case rel => exact ⟨_, (true), rl_, H', ⟨by have := HJ4.out; have := HK2.out; have := HK3.out; have := HJ39.out; first | omega | exact Nat.le_refl _⟩, ⟨by (with_reducible repeat (first | apply Kd.R_alloc | apply Kd.R_drewN | apply Kd.R_drew)); exact Kd.R_mono (Kd.R_far (p := ⟨gb742, 1, none⟩) (Kd.R_far (p := ⟨gb742, 0, none⟩) (Kd.R_types HO_5.out BK742.out (by decide)) (fun _ hk => hk.2) (.slice Ao73 t736.length co73)) (fun _ hk => hk.2) (.int .i64 t739)) (fun _ hk => hk.1)⟩, ⟨by (with_reducible repeat (first | apply Kd.R_alloc | apply Kd.R_drewN | apply Kd.R_drew)); exact Kd.R_mono (Kd.R_far (p := ⟨gb742, 1, none⟩) (Kd.R_far (p := ⟨gb742, 0, none⟩) (Kd.R_types HO_6.out BK742.out (by decide)) (fun _ hk => hk.2) (.slice Ao73 t736.length co73)) (fun _ hk => hk.2) (.int .i64 t739)) (fun _ hk => hk.1)⟩, ⟨by (with_reducible repeat (first | apply Kd.R_alloc | apply Kd.R_drewN | apply Kd.R_drew)); exact Kd.R_mono (Kd.R_far (p := ⟨gb742, 1, none⟩) (Kd.R_far (p := ⟨gb742, 0, none⟩) (Kd.R_types HO_714000.out BK742.out (by decide)) (fun _ hk => hk.2) (.slice Ao73 t736.length co73)) (fun _ hk => hk.2) (.int .i64 t739)) (fun _ hk => ⟨hk.1.2.2, hk.1.2.1⟩)⟩, ⟨by (with_reducible repeat (first | apply Kd.R_alloc | apply Kd.R_drewN | apply Kd.R_drew)); exact Kd.R_mono (Kd.R_far (p := ⟨gb742, 1, none⟩) (Kd.R_far (p := ⟨gb742, 0, none⟩) (Kd.R_types HO_729000.out BK742.out (by decide)) (fun _ hk => hk.2) (.slice Ao73 t736.length co73)) (fun _ hk => hk.2) (.int .i64 t739)) (fun _ hk => ⟨hk.1.2.2, hk.1.2.1⟩)⟩, ⟨by (with_reducible repeat (first | apply Kd.R_alloc | apply Kd.R_drewN | apply Kd.R_drew)); exact Kd.R_mono (Kd.R_far (p := ⟨gb742, 1, none⟩) (Kd.R_far (p := ⟨gb742, 0, none⟩) (Kd.R_types HO738.out BK742.out (by decide)) (fun _ hk => hk.2) (.slice Ao73 t736.length co73)) (fun _ hk => hk.2) (.int .i64 t739)) (fun _ hk => ⟨hk.1.2.1, hk.1.2.2⟩)⟩, ⟨by (with_reducible repeat (first | refine blk_drewN ?_ _ | refine blk_drew ?_ | refine blk_alloc ?_ _)); refine blk_far ?_ NB700_742.out _; (with_reducible repeat (first | refine blk_drewN ?_ _ | refine blk_drew ?_ | refine blk_alloc ?_ _)); refine blk_far ?_ NB700_742.out _; (with_reducible repeat (first | refine blk_drewN ?_ _ | refine blk_drew ?_ | refine blk_alloc ?_ _)); exact BK700.out⟩, ⟨by (with_reducible repeat (first | refine blk_drewN ?_ _ | refine blk_drew ?_ | refine blk_alloc ?_ _)); refine blk_far ?_ NB713_742.out _; (with_reducible repeat (first | refine blk_drewN ?_ _ | refine blk_drew ?_ | refine blk_alloc ?_ _)); refine blk_far ?_ NB713_742.out _; (with_reducible repeat (first | refine blk_drewN ?_ _ | refine blk_drew ?_ | refine blk_alloc ?_ _)); exact BK713.out⟩, ⟨by (with_reducible repeat (first | refine blk_drewN ?_ _ | refine blk_drew ?_ | refine blk_alloc ?_ _)); refine blk_far ?_ NB728_742.out _; (with_reducible repeat (first | refine blk_drewN ?_ _ | refine blk_drew ?_ | refine blk_alloc ?_ _)); refine blk_far ?_ NB728_742.out _; (with_reducible repeat (first | refine blk_drewN ?_ _ | refine blk_drew ?_ | refine blk_alloc ?_ _)); exact BK728.out⟩, ⟨bq_ BK742⟩, ⟨pb_ HB⟩⟩
                 case rest =>
                  clear HC66
                  try clear c1
                  try clear p2
                  try clear c7
                  try clear c12
                  try clear c13
                  try clear c76
                  try clear c76b0
                  try clear c76b1
                  obtain ⟨kq, x104_65, rfl, HA, HJ65, HO_5, HO_6, HO_714000, HO_729000, HO_743000, BK700, BK713, BK728, BK742, HB⟩ := hcut
                  cases kq with
                  | zero => exact absurd HA.out (by simp [midrangelaw04_SegmentNumbers.j4])
                  | succ kj65 =>
                   have H := HA.out
                   clear HA
                   simp only [midrangelaw04_SegmentNumbers.j4] at H
                   by_cases c79 : x104_65 = true
                   ·
                    subst c79
                    have H1 : (some false) = some r := by rw [if_pos rfl] at H; exact H
                    clear H
                    have H := H1
                    clear H1
                    obtain rfl := Option.some.inj H
                    go_wp2
                    go_ret
                    exact ⟨er_, pb_ HB⟩
                   replace c79 := Bool.eq_false_iff.mpr c79
                   subst c79
                   have H1 : (if x6_3.length < 17592186044416 then ((some (x6_3 ++ [t740] : List Int)).bind fun y744 => (if 0 ≤ x9_3 then (if x9_3 < (l1.length : Int) then (if ((rd_T66 l1 x9_3).f0) = 3 then (if x5_3.length < 17592186044416 then (midrangelaw04_SegmentNumbers.l1 kj65 l1 (x5_3 ++ [(rd_T66 l1 x9_3).f1]) y744 (wrap64 (x9_3 + 1)) t722 t725) else (none)) else (midrangelaw04_SegmentNumbers.l1 kj65 l1 x5_3 y744 (wrap64 (x9_3 + 1)) t722 t725)) else (none)) else (none))) else (none)) = some r := by rw [if_neg (show ¬ (false = true) by decide)] at H; exact H
                   clear H
                   have H := H1
                   clear H1
                   by_cases c80 : x6_3.length < 17592186044416
                   ·
                    rw [if_pos c80] at H
                    have LMc80 := Aside0.mk c80
                    clear c80
                    obtain ⟨y744, hy744⟩ : ∃ y_ : List Int, y_ = (x6_3 ++ [t740]) := ⟨_, rfl⟩
                    replace H : (if 0 ≤ x9_3 then (if x9_3 < (l1.length : Int) then (if ((rd_T66 l1 x9_3).f0) = 3 then (if x5_3.length < 17592186044416 then (midrangelaw04_SegmentNumbers.l1 kj65 l1 (x5_3 ++ [(rd_T66 l1 x9_3).f1]) y744 (wrap64 (x9_3 + 1)) t722 t725) else (none)) else (midrangelaw04_SegmentNumbers.l1 kj65 l1 x5_3 y744 (wrap64 (x9_3 + 1)) t722 t725)) else (none)) else (none)) = some r := by first | (rw [hy744]; with_reducible exact H) | (have H2_ := (Option.bind_some _ _).symm.trans H; rw [hy744]; with_reducible exact H2_) | (have H2_ := (Option.bind_some _ _).symm.trans H; with_reducible exact H2_) | with_reducible exact H | (rw [hy744]; exact H) | exact H
                    have Ny744 := Aside0.mk hy744
                    clear hy744
                    by_cases c81 : 0 ≤ x9_3
                    ·
                     rw [if_pos c81] at H
                     have c81b0 : decide (0 ≤ x9_3) = true := decide_eq_true c81
                     clear c81
                     by_cases c82 : x9_3 < (l1.length : Int)
                     ·
                      rw [if_pos c82] at H
                      have c82b0 : decide (x9_3 < (l1.length : Int)) = true := decide_eq_true c82
                      clear c82
                      by_cases c83 : ((rd_T66 l1 x9_3).f0) = 3
                      ·
                       rw [if_pos c83] at H
                       have c83b0 : (((rd_T66 l1 x9_3).f0) == 3) = true := beq_iff_eq.mpr c83
                       have c83b1 : (((rd_T66 l1 x9_3).f0) != 3) = false := bne_eq_false_iff_eq.mpr c83
                       clear c83
                       by_cases c84 : x5_3.length < 17592186044416
                       ·
                        rw [if_pos c84] at H
                        have LMc84 := Aside0.mk c84
                        clear c84
                        obtain ⟨y749, hy749⟩ : ∃ y_ : List Int, y_ = (x5_3 ++ [(rd_T66 l1 x9_3).f1]) := ⟨_, rfl⟩
                        replace H : (midrangelaw04_SegmentNumbers.l1 kj65 l1 y749 y744 (wrap64 (x9_3 + 1)) t722 t725) = some r := by first | (rw [hy749]; with_reducible exact H) | (have H2_ := (Option.bind_some _ _).symm.trans H; rw [hy749]; with_reducible exact H2_) | (have H2_ := (Option.bind_some _ _).symm.trans H; with_reducible exact H2_) | with_reducible exact H | (rw [hy749]; exact H) | exact H
                        have Ny749 := Aside0.mk hy749
                        clear hy749
                        have H' := Aside0.mk H
                        clear H
                        go_wp2_with (first | ((with_reducible refine gate_builtin (b := .append) (xs := #[.tmp 105, .tmp 107]) rfl ?_); at_builtin; refine Kd.R_append (Kd.int .i64) (w0 := w) w.heap.size rfl (.tmp 105) (.tmp 107) 64 3 (.int .i64 0) 8 rfl Try.underlying64 info3 rfl (by decide) (by omega) u6 x6_3 t740 [.int .i64 t740] (fun k_ => some k_ ≠ (u5 : Value).ownBlock) (fun _ => False) rfl rfl ?aP (fun _ hk => hk.elim) ?aF ?aO ?aB ?aS ?aL ?_; (case aP => exact rfl); (case aB => exact (pb_ HB)); (case aF => exact (fun k_ hk => Kd.fresh' (Kd.R_lt (rk_ HO_5)) k_ hk)); (case aO => exact (rk_ HO_6)); (case aS => exact (below_size (pb_ HB))); (case aL => have := LMc80.out; omega); intro v745 w85 ho hb hg hat; rw [← Ny744.out] at ho; replace HO_5 := Aside0.mk (Kd.R_after (ok := (fun _ => True)) (by (with_reducible repeat (first | apply Kd.R_alloc | apply Kd.R_drewN | apply Kd.R_drew)); exact Kd.R_mono HO_5.out (fun _ hk => ⟨trivial, hk⟩)) hg hat); replace HO_714000 := Aside0.mk (Kd.R_over' (rk_ HO_714000) (Kd.R_typed (rk_ HO_6)) (by decide) hg); replace HO_729000 := Aside0.mk (Kd.R_over' (rk_ HO_729000) (Kd.R_typed (rk_ HO_6)) (by decide) hg); replace HO_743000 := Aside0.mk (Kd.R_over' (rk_ HO_743000) (Kd.R_typed (rk_ HO_6)) (by decide) hg); replace BK700 := Aside0.mk (blk_grown (g := gb700) (o := .cells #[.slice A0_0 l0_0.length c0_0, .int .i64 a0_1] 24 (0, 0)) (pk_ BK700) hg (Kd.R_ne HO_6.out BK700.out (by decide))); replace BK713 := Aside0.mk (blk_grown (g := gb713) (o := .cells #[.slice Ao41 x714000_3.length co41, .int .i64 x714001_3] 24 (0, 0)) (pk_ BK713) hg (Kd.R_ne HO_6.out BK713.out (by decide))); replace BK728 := Aside0.mk (blk_grown (g := gb728) (o := .cells #[.slice Ao51 t722.length co51, .int .i64 t725] 24 (0, 0)) (pk_ BK728) hg (Kd.R_ne HO_6.out BK728.out (by decide))); replace BK742 := Aside0.mk (blk_grown (g := gb742) (o := .cells #[.slice Ao73 t736.length co73, .int .i64 t739] 24 (0, 0)) (pk_ BK742) hg (Kd.R_ne HO_6.out BK742.out (by decide))); replace HB := Aside0.mk (hb); have HO746 := Aside0.mk (ho); clear HO_6; clear ho hb hg hat; have p747 : 0 ≤ (x9_3 : Int) := ct_; have q747 : x9_3 < (l1.length : Int) := ct_; obtain ⟨ad747, e747, hx747_0, hx747_1, hx747_2, hx747_3, hx747_4⟩ := at_T66 HR1.out x9_3 p747 q747; obtain rfl : ad718 = ad747 := (by injection e747); replace hx747_0 := pw_cell_below HB.out hx747_0; replace hx747_1 := pw_cell_below HB.out hx747_1; replace hx747_2 := pw_cell_below HB.out hx747_2; replace hx747_3 := pw_cell_below HB.out hx747_3; replace hx747_4 := pw_cell_below HB.out hx747_4; replace p747 := eq_true p747; replace q747 := eq_true q747; have p748 : 0 ≤ (x9_3 : Int) := ct_; have q748 : x9_3 < (l1.length : Int) := ct_; obtain ⟨ad748, e748, hx748_0, hx748_1, hx748_2, hx748_3, hx748_4⟩ := at_T66 HR1.out x9_3 p748 q748; obtain rfl : ad718 = ad748 := (by injection e748); replace hx748_0 := pw_cell_below HB.out hx748_0; replace hx748_1 := pw_cell_below HB.out hx748_1; replace hx748_2 := pw_cell_below HB.out hx748_2; replace hx748_3 := pw_cell_below HB.out hx748_3; replace hx748_4 := pw_cell_below HB.out hx748_4; replace p748 := eq_true p748; replace q748 := eq_true q748) | ((with_reducible refine gate_builtin (b := .append) (xs := #[.tmp 115, .tmp 121]) rfl ?_); at_builtin; refine Kd.R_append (Kd.int .i64) (w0 := w) w.heap.size rfl (.tmp 115) (.tmp 121) 64 3 (.int .i64 0) 8 rfl Try.underlying64 info3 rfl (by decide) (by omega) u5 x5_3 ((rd_T66 l1 x9_3).f1) [.int .i64 ((rd_T66 l1 x9_3).f1)] (fun k_ => some k_ ≠ (v745 : Value).ownBlock) (fun _ => False) rfl rfl ?aP (fun _ hk => hk.elim) ?aF ?aO ?aB ?aS ?aL ?_; (case aP => exact rfl); (case aB => exact (pb_ HB)); (case aF => exact (fun k_ hk => Kd.fresh' (Kd.R_lt (rk_ HO746)) k_ hk)); (case aO => exact (by (with_reducible repeat (first | apply Kd.R_alloc | apply Kd.R_drewN | apply Kd.R_drew)); exact Kd.R_mono HO_5.out (fun _ hk => hk.2))); (case aS => exact (below_size (pb_ HB))); (case aL => have := LMc84.out; omega); intro v750 w86 ho hb hg hat; rw [← Ny749.out] at ho; replace HO_714000 := Aside0.mk (Kd.R_over' (rk_ HO_714000) (Kd.R_typed (rk_ HO_5)) (by decide) hg); replace HO_729000 := Aside0.mk (Kd.R_over' (rk_ HO_729000) (Kd.R_typed (rk_ HO_5)) (by decide) hg); replace HO_743000 := Aside0.mk (Kd.R_over' (rk_ HO_743000) (Kd.R_typed (rk_ HO_5)) (by decide) hg); replace BK700 := Aside0.mk (blk_grown (g := gb700) (o := .cells #[.slice A0_0 l0_0.length c0_0, .int .i64 a0_1] 24 (0, 0)) (pk_ BK700) hg (Kd.R_ne HO_5.out BK700.out (by decide))); replace BK713 := Aside0.mk (blk_grown (g := gb713) (o := .cells #[.slice Ao41 x714000_3.length co41, .int .i64 x714001_3] 24 (0, 0)) (pk_ BK713) hg (Kd.R_ne HO_5.out BK713.out (by decide))); replace BK728 := Aside0.mk (blk_grown (g := gb728) (o := .cells #[.slice Ao51 t722.length co51, .int .i64 t725] 24 (0, 0)) (pk_ BK728) hg (Kd.R_ne HO_5.out BK728.out (by decide))); replace BK742 := Aside0.mk (blk_grown (g := gb742) (o := .cells #[.slice Ao73 t736.length co73, .int .i64 t739] 24 (0, 0)) (pk_ BK742) hg (Kd.R_ne HO_5.out BK742.out (by decide))); replace HO746 := Aside0.mk (Kd.R_after (ok := (fun _ => True)) (by (with_reducible repeat (first | apply Kd.R_alloc | apply Kd.R_drewN | apply Kd.R_drew)); exact Kd.R_mono HO746.out (fun _ hk => ⟨trivial, hk⟩)) hg hat); replace HB := Aside0.mk (hb); have HO751 := Aside0.mk (ho); clear HO_5; clear ho hb hg hat; have hnb87 := NB728_700.out; have hnc87 := NB700_728.out; have hnb88 := NB728_713.out; have hnc88 := NB713_728.out; have hnb89 := NB728_742.out; have hnc89 := NB742_728.out; have hcz90_0 := cz_ BK728 0 (.slice Ao51 t722.length co51); have hcz90_1 := cz_ BK728 1 (.int .i64 t725); have hfz90_0 := blk_frozen BK728.out 0; have hfz90_1 := blk_frozen BK728.out 1; have hnb91 := NB713_700.out; have hnc91 := NB700_713.out; have hnb92 := NB713_742.out; have hnc92 := NB742_713.out; have hcz93_0 := cz_ BK713 0 (.slice Ao41 x714000_3.length co41); have hcz93_1 := cz_ BK713 1 (.int .i64 x714001_3); have hfz93_0 := blk_frozen BK713.out 0; have hfz93_1 := blk_frozen BK713.out 1))
                        go_roundg kj65
                        case measure => have := HJ4.out; have := HK2.out; have := HK3.out; have := HJ39.out; have := HJ65.out; omega
                        case rel => exact ⟨(y749), (y744), (wrap64 (x9_3 + 1)), (t722), (t725), (.slice Ao51 t722.length co51), rl_, H', ⟨by have := HJ4.out; have := HK2.out; have := HK3.out; have := HJ39.out; have := HJ65.out; omega⟩, ⟨by (with_reducible repeat (first | apply Kd.R_alloc | apply Kd.R_drewN | apply Kd.R_drew)); exact Kd.R_mono (Kd.R_far (p := ⟨gb713, 1, none⟩) (Kd.R_far (p := ⟨gb713, 0, none⟩) (Kd.R_types HO751.out BK713.out (by decide)) (fun _ hk => hk.2) (.slice Ao51 t722.length co51)) (fun _ hk => hk.2) (.int .i64 t725)) (fun _ hk => hk.1)⟩, ⟨by (with_reducible repeat (first | apply Kd.R_alloc | apply Kd.R_drewN | apply Kd.R_drew)); exact Kd.R_mono (Kd.R_far (p := ⟨gb713, 1, none⟩) (Kd.R_far (p := ⟨gb713, 0, none⟩) (Kd.R_types HO746.out BK713.out (by decide)) (fun _ hk => hk.2) (.slice Ao51 t722.length co51)) (fun _ hk => hk.2) (.int .i64 t725)) (fun _ hk => hk.1.2)⟩, ⟨by (with_reducible repeat (first | apply Kd.R_alloc | apply Kd.R_drewN | apply Kd.R_drew)); exact Kd.R_mono (Kd.R_far (p := ⟨gb713, 1, none⟩) (Kd.R_far (p := ⟨gb713, 0, none⟩) (Kd.R_types HO_729000.out BK713.out (by decide)) (fun _ hk => hk.2) (.slice Ao51 t722.length co51)) (fun _ hk => hk.2) (.int .i64 t725)) (fun _ hk => trivial)⟩, ⟨by (with_reducible repeat (first | refine blk_drewN ?_ _ | refine blk_drew ?_ | refine blk_alloc ?_ _)); refine blk_far ?_ NB700_713.out _; (with_reducible repeat (first | refine blk_drewN ?_ _ | refine blk_drew ?_ | refine blk_alloc ?_ _)); refine blk_far ?_ NB700_713.out _; (with_reducible repeat (first | refine blk_drewN ?_ _ | refine blk_drew ?_ | refine blk_alloc ?_ _)); exact BK700.out⟩, ⟨bq_ BK713⟩, ⟨pb_ HB⟩⟩
                       rw [if_neg c84] at H
                       exact absurd H (by simp)
                      rw [if_neg c83] at H
                      have c83b0 : (((rd_T66 l1 x9_3).f0) == 3) = false := beq_eq_false_iff_ne.mpr c83
                      have c83b1 : (((rd_T66 l1 x9_3).f0) != 3) = true := bne_iff_ne.mpr c83
                      have H' := Aside0.mk H
                      clear H
                      go_wp2_with (first | ((with_reducible refine gate_builtin (b := .append) (xs := #[.tmp 105, .tmp 107]) rfl ?_); at_builtin; refine Kd.R_append (Kd.int .i64) (w0 := w) w.heap.size rfl (.tmp 105) (.tmp 107) 64 3 (.int .i64 0) 8 rfl Try.underlying64 info3 rfl (by decide) (by omega) u6 x6_3 t740 [.int .i64 t740] (fun k_ => some k_ ≠ (u5 : Value).ownBlock) (fun _ => False) rfl rfl ?aP (fun _ hk => hk.elim) ?aF ?aO ?aB ?aS ?aL ?_; (case aP => exact rfl); (case aB => exact (pb_ HB)); (case aF => exact (fun k_ hk => Kd.fresh' (Kd.R_lt (rk_ HO_5)) k_ hk)); (case aO => exact (rk_ HO_6)); (case aS => exact (below_size (pb_ HB))); (case aL => have := LMc80.out; omega); intro v745 w94 ho hb hg hat; rw [← Ny744.out] at ho; replace HO_5 := Aside0.mk (Kd.R_after (ok := (fun _ => True)) (by (with_reducible repeat (first | apply Kd.R_alloc | apply Kd.R_drewN | apply Kd.R_drew)); exact Kd.R_mono HO_5.out (fun _ hk => ⟨trivial, hk⟩)) hg hat); replace HO_714000 := Aside0.mk (Kd.R_over' (rk_ HO_714000) (Kd.R_typed (rk_ HO_6)) (by decide) hg); replace HO_729000 := Aside0.mk (Kd.R_over' (rk_ HO_729000) (Kd.R_typed (rk_ HO_6)) (by decide) hg); replace HO_743000 := Aside0.mk (Kd.R_over' (rk_ HO_743000) (Kd.R_typed (rk_ HO_6)) (by decide) hg); replace BK700 := Aside0.mk (blk_grown (g := gb700) (o := .cells #[.slice A0_0 l0_0.length c0_0, .int .i64 a0_1] 24 (0, 0)) (pk_ BK700) hg (Kd.R_ne HO_6.out BK700.out (by decide))); replace BK713 := Aside0.mk (blk_grown (g := gb713) (o := .cells #[.slice Ao41 x714000_3.length co41, .int .i64 x714001_3] 24 (0, 0)) (pk_ BK713) hg (Kd.R_ne HO_6.out BK713.out (by decide))); replace BK728 := Aside0.mk (blk_grown (g := gb728) (o := .cells #[.slice Ao51 t722.length co51, .int .i64 t725] 24 (0, 0)) (pk_ BK728) hg (Kd.R_ne HO_6.out BK728.out (by decide))); replace BK742 := Aside0.mk (blk_grown (g := gb742) (o := .cells #[.slice Ao73 t736.length co73, .int .i64 t739] 24 (0, 0)) (pk_ BK742) hg (Kd.R_ne HO_6.out BK742.out (by decide))); replace HB := Aside0.mk (hb); have HO746 := Aside0.mk (ho); clear HO_6; clear ho hb hg hat; have p747 : 0 ≤ (x9_3 : Int) := ct_; have q747 : x9_3 < (l1.length : Int) := ct_; obtain ⟨ad747, e747, hx747_0, hx747_1, hx747_2, hx747_3, hx747_4⟩ := at_T66 HR1.out x9_3 p747 q747; obtain rfl : ad718 = ad747 := (by injection e747); replace hx747_0 := pw_cell_below HB.out hx747_0; replace hx747_1 := pw_cell_below HB.out hx747_1; replace hx747_2 := pw_cell_below HB.out hx747_2; replace hx747_3 := pw_cell_below HB.out hx747_3; replace hx747_4 := pw_cell_below HB.out hx747_4; replace p747 := eq_true p747; replace q747 := eq_true q747; have hnb95 := NB728_700.out; have hnc95 := NB700_728.out; have hnb96 := NB728_713.out; have hnc96 := NB713_728.out; have hnb97 := NB728_742.out; have hnc97 := NB742_728.out; have hcz98_0 := cz_ BK728 0 (.slice Ao51 t722.length co51); have hcz98_1 := cz_ BK728 1 (.int .i64 t725); have hfz98_0 := blk_frozen BK728.out 0; have hfz98_1 := blk_frozen BK728.out 1; have hnb99 := NB713_700.out; have hnc99 := NB700_713.out; have hnb100 := NB713_742.out; have hnc100 := NB742_713.out; have hcz101_0 := cz_ BK713 0 (.slice Ao41 x714000_3.length co41); have hcz101_1 := cz_ BK713 1 (.int .i64 x714001_3); have hfz101_0 := blk_frozen BK713.out 0; have hfz101_1 := blk_frozen BK713.out 1))
                      go_roundg kj65
                      case measure => have := HJ4.out; have := HK2.out; have := HK3.out; have := HJ39.out; have := HJ65.out; omega
                      case rel => exact ⟨(x5_3), (y744), (wrap64 (x9_3 + 1)), (t722), (t725), (.slice Ao51 t722.length co51), rl_, H', ⟨by have := HJ4.out; have := HK2.out; have := HK3.out; have := HJ39.out; have := HJ65.out; omega⟩, ⟨by (with_reducible repeat (first | apply Kd.R_alloc | apply Kd.R_drewN | apply Kd.R_drew)); exact Kd.R_mono (Kd.R_far (p := ⟨gb713, 1, none⟩) (Kd.R_far (p := ⟨gb713, 0, none⟩) (Kd.R_types HO_5.out BK713.out (by decide)) (fun _ hk => hk.2) (.slice Ao51 t722.length co51)) (fun _ hk => hk.2) (.int .i64 t725)) (fun _ hk => hk.1.2)⟩, ⟨by (with_reducible repeat (first | apply Kd.R_alloc | apply Kd.R_drewN | apply Kd.R_drew)); exact Kd.R_mono (Kd.R_far (p := ⟨gb713, 1, none⟩) (Kd.R_far (p := ⟨gb713, 0, none⟩) (Kd.R_types HO746.out BK713.out (by decide)) (fun _ hk => hk.2) (.slice Ao51 t722.length co51)) (fun _ hk => hk.2) (.int .i64 t725)) (fun _ hk => hk.1)⟩, ⟨by (with_reducible repeat (first | apply Kd.R_alloc | apply Kd.R_drewN | apply Kd.R_drew)); exact Kd.R_mono (Kd.R_far (p := ⟨gb713, 1, none⟩) (Kd.R_far (p := ⟨gb713, 0, none⟩) (Kd.R_types HO_729000.out BK713.out (by decide)) (fun _ hk => hk.2) (.slice Ao51 t722.length co51)) (fun _ hk => hk.2) (.int .i64 t725)) (fun _ hk => trivial)⟩, ⟨by (with_reducible repeat (first | refine blk_drewN ?_ _ | refine blk_drew ?_ | refine blk_alloc ?_ _)); refine blk_far ?_ NB700_713.out _; (with_reducible repeat (first | refine blk_drewN ?_ _ | refine blk_drew ?_ | refine blk_alloc ?_ _)); refine blk_far ?_ NB700_713.out _; (with_reducible repeat (first | refine blk_drewN ?_ _ | refine blk_drew ?_ | refine blk_alloc ?_ _)); exact BK700.out⟩, ⟨bq_ BK713⟩, ⟨pb_ HB⟩⟩
                     rw [if_neg c82] at H
                     exact absurd H (by simp)
                    rw [if_neg c81] at H
                    exact absurd H (by simp)
                   rw [if_neg c80] at H
                   exact absurd H (by simp)
                rw [if_neg c63] at H
                have c63b0 : (((rd_T66 l1 x9_3).f0) == 0) = false := beq_eq_false_iff_ne.mpr c63
                have c63b1 : (((rd_T66 l1 x9_3).f0) != 0) = true := bne_iff_ne.mpr c63
                by_cases c102 : ((rd_T66 l1 x9_3).f0) = 3
                ·
                 rw [if_pos c102] at H
                 have c102b0 : (((rd_T66 l1 x9_3).f0) == 3) = true := beq_iff_eq.mpr c102
                 have c102b1 : (((rd_T66 l1 x9_3).f0) != 3) = false := bne_eq_false_iff_eq.mpr c102
                 clear c102
                 by_cases c103 : x5_3.length < 17592186044416
                 ·
                  rw [if_pos c103] at H
                  have LMc103 := Aside0.mk c103
                  clear c103
                  obtain ⟨y754, hy754⟩ : ∃ y_ : List Int, y_ = (x5_3 ++ [(rd_T66 l1 x9_3).f1]) := ⟨_, rfl⟩
                  replace H : (midrangelaw04_SegmentNumbers.l1 kj39 l1 y754 x6_3 (wrap64 (x9_3 + 1)) t722 t725) = some r := by first | (rw [hy754]; with_reducible exact H) | (have H2_ := (Option.bind_some _ _).symm.trans H; rw [hy754]; with_reducible exact H2_) | (have H2_ := (Option.bind_some _ _).symm.trans H; with_reducible exact H2_) | with_reducible exact H | (rw [hy754]; exact H) | exact H
                  have Ny754 := Aside0.mk hy754
                  clear hy754
                  have H' := Aside0.mk H
                  clear H
                  have p730 : 0 ≤ (x9_3 : Int) := ct_
                  have q730 : x9_3 < (l1.length : Int) := ct_
                  obtain ⟨ad730, e730, hx730_0, hx730_1, hx730_2, hx730_3, hx730_4⟩ := at_T66 HR1.out x9_3 p730 q730
                  obtain rfl : ad718 = ad730 := (by injection e730)
                  replace hx730_0 := pw_cell_below HB.out hx730_0
                  replace hx730_1 := pw_cell_below HB.out hx730_1
                  replace hx730_2 := pw_cell_below HB.out hx730_2
                  replace hx730_3 := pw_cell_below HB.out hx730_3
                  replace hx730_4 := pw_cell_below HB.out hx730_4
                  replace p730 := eq_true p730
                  replace q730 := eq_true q730
                  have p752 : 0 ≤ (x9_3 : Int) := ct_
                  have q752 : x9_3 < (l1.length : Int) := ct_
                  obtain ⟨ad752, e752, hx752_0, hx752_1, hx752_2, hx752_3, hx752_4⟩ := at_T66 HR1.out x9_3 p752 q752
                  obtain rfl : ad718 = ad752 := (by injection e752)
                  replace hx752_0 := pw_cell_below HB.out hx752_0
                  replace hx752_1 := pw_cell_below HB.out hx752_1
                  replace hx752_2 := pw_cell_below HB.out hx752_2
                  replace hx752_3 := pw_cell_below HB.out hx752_3
                  replace hx752_4 := pw_cell_below HB.out hx752_4
                  replace p752 := eq_true p752
                  replace q752 := eq_true q752
                  have p753 : 0 ≤ (x9_3 : Int) := ct_
                  have q753 : x9_3 < (l1.length : Int) := ct_
                  obtain ⟨ad753, e753, hx753_0, hx753_1, hx753_2, hx753_3, hx753_4⟩ := at_T66 HR1.out x9_3 p753 q753
                  obtain rfl : ad718 = ad753 := (by injection e753)
                  replace hx753_0 := pw_cell_below HB.out hx753_0
                  replace hx753_1 := pw_cell_below HB.out hx753_1
                  replace hx753_2 := pw_cell_below HB.out hx753_2
                  replace hx753_3 := pw_cell_below HB.out hx753_3
                  replace hx753_4 := pw_cell_below HB.out hx753_4
                  replace p753 := eq_true p753
                  replace q753 := eq_true q753
                  go_wp2_with (first | ((with_reducible refine gate_builtin (b := .append) (xs := #[.tmp 115, .tmp 121]) rfl ?_); at_builtin; refine Kd.R_append (Kd.int .i64) (w0 := w) w.heap.size rfl (.tmp 115) (.tmp 121) 64 3 (.int .i64 0) 8 rfl Try.underlying64 info3 rfl (by decide) (by omega) u5 x5_3 ((rd_T66 l1 x9_3).f1) [.int .i64 ((rd_T66 l1 x9_3).f1)] (fun k_ => some k_ ≠ (u6 : Value).ownBlock) (fun _ => False) rfl rfl ?aP (fun _ hk => hk.elim) ?aF ?aO ?aB ?aS ?aL ?_; (case aP => exact rfl); (case aB => exact (pb_ HB)); (case aF => exact (fun k_ hk => Kd.fresh' (Kd.R_lt (rk_ HO_6)) k_ hk)); (case aO => exact (rk_ HO_5)); (case aS => exact (below_size (pb_ HB))); (case aL => have := LMc103.out; omega); intro v755 w104 ho hb hg hat; rw [← Ny754.out] at ho; replace HO_6 := Aside0.mk (Kd.R_after (ok := (fun _ => True)) (by (with_reducible repeat (first | apply Kd.R_alloc | apply Kd.R_drewN | apply Kd.R_drew)); exact Kd.R_mono HO_6.out (fun _ hk => ⟨trivial, hk⟩)) hg hat); replace HO_714000 := Aside0.mk (Kd.R_over' (rk_ HO_714000) (Kd.R_typed (rk_ HO_5)) (by decide) hg); replace HO_729000 := Aside0.mk (Kd.R_over' (rk_ HO_729000) (Kd.R_typed (rk_ HO_5)) (by decide) hg); replace BK700 := Aside0.mk (blk_grown (g := gb700) (o := .cells #[.slice A0_0 l0_0.length c0_0, .int .i64 a0_1] 24 (0, 0)) (pk_ BK700) hg (Kd.R_ne HO_5.out BK700.out (by decide))); replace BK713 := Aside0.mk (blk_grown (g := gb713) (o := .cells #[.slice Ao41 x714000_3.length co41, .int .i64 x714001_3] 24 (0, 0)) (pk_ BK713) hg (Kd.R_ne HO_5.out BK713.out (by decide))); replace BK728 := Aside0.mk (blk_grown (g := gb728) (o := .cells #[.slice Ao51 t722.length co51, .int .i64 t725] 24 (0, 0)) (pk_ BK728) hg (Kd.R_ne HO_5.out BK728.out (by decide))); replace HB := Aside0.mk (hb); have HO756 := Aside0.mk (ho); clear HO_5; clear ho hb hg hat; have hnb105 := NB728_700.out; have hnc105 := NB700_728.out; have hnb106 := NB728_713.out; have hnc106 := NB713_728.out; have hcz107_0 := cz_ BK728 0 (.slice Ao51 t722.length co51); have hcz107_1 := cz_ BK728 1 (.int .i64 t725); have hfz107_0 := blk_frozen BK728.out 0; have hfz107_1 := blk_frozen BK728.out 1; have hnb108 := NB713_700.out; have hnc108 := NB700_713.out; have hcz109_0 := cz_ BK713 0 (.slice Ao41 x714000_3.length co41); have hcz109_1 := cz_ BK713 1 (.int .i64 x714001_3); have hfz109_0 := blk_frozen BK713.out 0; have hfz109_1 := blk_frozen BK713.out 1))
                  go_roundg kj39
                  case measure => have := HJ4.out; have := HK2.out; have := HK3.out; have := HJ39.out; omega
                  case rel => exact ⟨(y754), (x6_3), (wrap64 (x9_3 + 1)), (t722), (t725), (.slice Ao51 t722.length co51), rl_, H', ⟨by have := HJ4.out; have := HK2.out; have := HK3.out; have := HJ39.out; omega⟩, ⟨by (with_reducible repeat (first | apply Kd.R_alloc | apply Kd.R_drewN | apply Kd.R_drew)); exact Kd.R_mono (Kd.R_far (p := ⟨gb713, 1, none⟩) (Kd.R_far (p := ⟨gb713, 0, none⟩) (Kd.R_types HO756.out BK713.out (by decide)) (fun _ hk => hk.2) (.slice Ao51 t722.length co51)) (fun _ hk => hk.2) (.int .i64 t725)) (fun _ hk => hk.1)⟩, ⟨by (with_reducible repeat (first | apply Kd.R_alloc | apply Kd.R_drewN | apply Kd.R_drew)); exact Kd.R_mono (Kd.R_far (p := ⟨gb713, 1, none⟩) (Kd.R_far (p := ⟨gb713, 0, none⟩) (Kd.R_types HO_6.out BK713.out (by decide)) (fun _ hk => hk.2) (.slice Ao51 t722.length co51)) (fun _ hk => hk.2) (.int .i64 t725)) (fun _ hk => hk.1.2)⟩, ⟨by (with_reducible repeat (first | apply Kd.R_alloc | apply Kd.R_drewN | apply Kd.R_drew)); exact Kd.R_mono (Kd.R_far (p := ⟨gb713, 1, none⟩) (Kd.R_far (p := ⟨gb713, 0, none⟩) (Kd.R_types HO_729000.out BK713.out (by decide)) (fun _ hk => hk.2) (.slice Ao51 t722.length co51)) (fun _ hk => hk.2) (.int .i64 t725)) (fun _ hk => trivial)⟩, ⟨by (with_reducible repeat (first | refine blk_drewN ?_ _ | refine blk_drew ?_ | refine blk_alloc ?_ _)); refine blk_far ?_ NB700_713.out _; (with_reducible repeat (first | refine blk_drewN ?_ _ | refine blk_drew ?_ | refine blk_alloc ?_ _)); refine blk_far ?_ NB700_713.out _; (with_reducible repeat (first | refine blk_drewN ?_ _ | refine blk_drew ?_ | refine blk_alloc ?_ _)); exact BK700.out⟩, ⟨bq_ BK713⟩, ⟨pb_ HB⟩⟩
                 rw [if_neg c103] at H
                 exact absurd H (by simp)
                rw [if_neg c102] at H
                have c102b0 : (((rd_T66 l1 x9_3).f0) == 3) = false := beq_eq_false_iff_ne.mpr c102
                have c102b1 : (((rd_T66 l1 x9_3).f0) != 3) = true := bne_iff_ne.mpr c102
                have H' := Aside0.mk H
                clear H
                have p730 : 0 ≤ (x9_3 : Int) := ct_
                have q730 : x9_3 < (l1.length : Int) := ct_
                obtain ⟨ad730, e730, hx730_0, hx730_1, hx730_2, hx730_3, hx730_4⟩ := at_T66 HR1.out x9_3 p730 q730
                obtain rfl : ad718 = ad730 := (by injection e730)
                replace hx730_0 := pw_cell_below HB.out hx730_0
                replace hx730_1 := pw_cell_below HB.out hx730_1
                replace hx730_2 := pw_cell_below HB.out hx730_2
                replace hx730_3 := pw_cell_below HB.out hx730_3
                replace hx730_4 := pw_cell_below HB.out hx730_4
                replace p730 := eq_true p730
                replace q730 := eq_true q730
                have p752 : 0 ≤ (x9_3 : Int) := ct_
                have q752 : x9_3 < (l1.length : Int) := ct_
                obtain ⟨ad752, e752, hx752_0, hx752_1, hx752_2, hx752_3, hx752_4⟩ := at_T66 HR1.out x9_3 p752 q752
                obtain rfl : ad718 = ad752 := (by injection e752)
                replace hx752_0 := pw_cell_below HB.out hx752_0
                replace hx752_1 := pw_cell_below HB.out hx752_1
                replace hx752_2 := pw_cell_below HB.out hx752_2
                replace hx752_3 := pw_cell_below HB.out hx752_3
                replace hx752_4 := pw_cell_below HB.out hx752_4
                replace p752 := eq_true p752
                replace q752 := eq_true q752
                have hnb110 := NB728_700.out
                have hnc110 := NB700_728.out
                have hnb111 := NB728_713.out
                have hnc111 := NB713_728.out
                have hcz112_0 := cz_ BK728 0 (.slice Ao51 t722.length co51)
                have hcz112_1 := cz_ BK728 1 (.int .i64 t725)
                have hfz112_0 := blk_frozen BK728.out 0
                have hfz112_1 := blk_frozen BK728.out 1
                have hnb113 := NB713_700.out
                have hnc113 := NB700_713.out
                have hcz114_0 := cz_ BK713 0 (.slice Ao41 x714000_3.length co41)
                have hcz114_1 := cz_ BK713 1 (.int .i64 x714001_3)
                have hfz114_0 := blk_frozen BK713.out 0
                have hfz114_1 := blk_frozen BK713.out 1
                go_wp2
                go_roundg kj39
                case measure => have := HJ4.out; have := HK2.out; have := HK3.out; have := HJ39.out; omega
                case rel => exact ⟨(x5_3), (x6_3), (wrap64 (x9_3 + 1)), (t722), (t725), (.slice Ao51 t722.length co51), rl_, H', ⟨by have := HJ4.out; have := HK2.out; have := HK3.out; have := HJ39.out; omega⟩, ⟨by (with_reducible repeat (first | apply Kd.R_alloc | apply Kd.R_drewN | apply Kd.R_drew)); exact Kd.R_mono (Kd.R_far (p := ⟨gb713, 1, none⟩) (Kd.R_far (p := ⟨gb713, 0, none⟩) (Kd.R_types HO_5.out BK713.out (by decide)) (fun _ hk => hk.2) (.slice Ao51 t722.length co51)) (fun _ hk => hk.2) (.int .i64 t725)) (fun _ hk => hk.1)⟩, ⟨by (with_reducible repeat (first | apply Kd.R_alloc | apply Kd.R_drewN | apply Kd.R_drew)); exact Kd.R_mono (Kd.R_far (p := ⟨gb713, 1, none⟩) (Kd.R_far (p := ⟨gb713, 0, none⟩) (Kd.R_types HO_6.out BK713.out (by decide)) (fun _ hk => hk.2) (.slice Ao51 t722.length co51)) (fun _ hk => hk.2) (.int .i64 t725)) (fun _ hk => hk.1)⟩, ⟨by (with_reducible repeat (first | apply Kd.R_alloc | apply Kd.R_drewN | apply Kd.R_drew)); exact Kd.R_mono (Kd.R_far (p := ⟨gb713, 1, none⟩) (Kd.R_far (p := ⟨gb713, 0, none⟩) (Kd.R_types HO_729000.out BK713.out (by decide)) (fun _ hk => hk.2) (.slice Ao51 t722.length co51)) (fun _ hk => hk.2) (.int .i64 t725)) (fun _ hk => trivial)⟩, ⟨by (with_reducible repeat (first | refine blk_drewN ?_ _ | refine blk_drew ?_ | refine blk_alloc ?_ _)); refine blk_far ?_ NB700_713.out _; (with_reducible repeat (first | refine blk_drewN ?_ _ | refine blk_drew ?_ | refine blk_alloc ?_ _)); refine blk_far ?_ NB700_713.out _; (with_reducible repeat (first | refine blk_drewN ?_ _ | refine blk_drew ?_ | refine blk_alloc ?_ _)); exact BK700.out⟩, ⟨bq_ BK713⟩, ⟨pb_ HB⟩⟩
               rw [if_neg c62] at H
               exact absurd H (by simp)
              rw [if_neg c61] at H
              exact absurd H (by simp)
           rw [if_neg c39] at H
           have c39b0 : (t727 == 0) = false := beq_eq_false_iff_ne.mpr c39
           have c39b1 : (t727 != 0) = true := bne_iff_ne.mpr c39
           have H' := Aside0.mk H
           clear H
           obtain ⟨Ao115, co115, eo115⟩ := Kd.R_slice HO_714000.out
           subst eo115
           try go_wp2
           replace HO_5 := rd_ HO_5
           replace HO_6 := rd_ HO_6
           replace HO_714000 := rd_ HO_714000
           replace BK700 := Aside0.mk (blk_drew BK700.out)
           replace BK713 := Aside0.mk (blk_drew BK713.out)
           replace HB := Aside0.mk (below_drew1 HB.out)
           have p718 : 0 ≤ (x9_3 : Int) := ct_
           have q718 : x9_3 < (l1.length : Int) := ct_
           obtain ⟨ad718, e718, hx718_0, hx718_1, hx718_2, hx718_3, hx718_4⟩ := at_T66 HR1.out x9_3 p718 q718
           have hw718_4 := hx718_4
           have hw718_3 := hx718_3
           have hw718_2 := hx718_2
           have hw718_1 := hx718_1
           have hw718_0 := hx718_0
           cases e718
           replace hx718_0 := pw_cell_below HB.out hx718_0
           replace hx718_1 := pw_cell_below HB.out hx718_1
           replace hx718_2 := pw_cell_below HB.out hx718_2
           replace hx718_3 := pw_cell_below HB.out hx718_3
           replace hx718_4 := pw_cell_below HB.out hx718_4
           replace p718 := eq_true p718
           replace q718 := eq_true q718
           refine start_ (n := 16) (S := fun w' => w'.cell? ⟨gb713, 0, none⟩ = some (.slice Ao115 x714000_3.length co115) ∧ w'.cell? ⟨gb713, 1, none⟩ = some (.int .i64 x714001_3) ∧ w'.cell? (ad718.add ((x9_3).toNat * 5)) = some (.int .i64 ((rd_T66 l1 x9_3).f0)) ∧ w'.cell? ⟨(ad718.add ((x9_3).toNat * 5)).block, (ad718.add ((x9_3).toNat * 5)).off + 1, none⟩ = some (.int .i64 ((rd_T66 l1 x9_3).f1)) ∧ w'.cell? ⟨(ad718.add ((x9_3).toNat * 5)).block, (ad718.add ((x9_3).toNat * 5)).off + 2, none⟩ = some (.int .i64 ((rd_T66 l1 x9_3).f2)) ∧ w'.cell? ⟨(ad718.add ((x9_3).toNat * 5)).block, (ad718.add ((x9_3).toNat * 5)).off + 3, none⟩ = some (.int .i64 ((rd_T66 l1 x9_3).f3)) ∧ w'.cell? ⟨(ad718.add ((x9_3).toNat * 5)).block, (ad718.add ((x9_3).toNat * 5)).off + 4, none⟩ = some (.string ((rd_T66 l1 x9_3).f4))) (ds := []) #[false, false, false, false, false, false, false, false, false, false, false, false, false, false, false, false] (by kernel_rfl) rfl rfl ⟨cy_ BK713 0, cy_ BK713 1, (pw_cell_below HB.out hw718_0), (pw_cell_below HB.out hw718_1), (pw_cell_below HB.out hw718_2), (pw_cell_below HB.out hw718_3), (pw_cell_below HB.out hw718_4)⟩ (fun hHeld => ?_); refine with_tabW midrangelaw04_SegmentNumbers.tab14 midrangelaw04_SegmentNumbers.bits14 (fun HT_ HW_ => ?_)
           generalize wr.drew = w116 at HO_5 HO_6 HO_714000 BK700 BK713 HB hx718_0 hx718_1 hx718_2 hx718_3 hx718_4 hHeld ⊢
           refine pu_ 2 61 HT_ ?_
           refine pu_ 3 62 HT_ ?_
           refine pu_ 4 63 HT_ ?_
           refine tk_ 0 59 HT_ HW_ hHeld rfl (Or.inl ⟨by rfl, by rintro w' ⟨s0, s1, s2, s3, s4, s5, s6⟩; go_simp; with_reducible rfl⟩) ?_
           refine tk_ 5 64 HT_ HW_ hHeld rfl (Or.inl ⟨by rfl, by rintro w' ⟨s0, s1, s2, s3, s4, s5, s6⟩; go_simp; with_reducible rfl⟩) ?_
           refine join_ (σ := Value × Value × Value × Nat) 3 #[true, true, true, true, true, true, true, true, true, true, true, true, true, false, false, false] (fun s_ => [(60, .agg #[s_.1, .int .i64 t717]), (65, s_.2.1), (66, .tuple #[.agg #[s_.2.2.1, .int .i64 t725], .int .i64 t726, .int .i64 t727]), (10, .pointer (some ⟨s_.2.2.2, 0, none⟩)), (58, .tuple #[.agg #[s_.2.2.1, .int .i64 t725], .int .i64 t726, .int .i64 t727]), (67, .agg #[s_.2.2.1, .int .i64 t725]), (68, .int .i64 t726), (69, .int .i64 t727)]) (fun s_ w' => (w'.cell? ⟨gb713, 0, none⟩ = some (.slice Ao115 x714000_3.length co115) ∧ w'.cell? ⟨gb713, 1, none⟩ = some (.int .i64 x714001_3) ∧ w'.cell? (ad718.add ((x9_3).toNat * 5)) = some (.int .i64 ((rd_T66 l1 x9_3).f0)) ∧ w'.cell? ⟨(ad718.add ((x9_3).toNat * 5)).block, (ad718.add ((x9_3).toNat * 5)).off + 1, none⟩ = some (.int .i64 ((rd_T66 l1 x9_3).f1)) ∧ w'.cell? ⟨(ad718.add ((x9_3).toNat * 5)).block, (ad718.add ((x9_3).toNat * 5)).off + 2, none⟩ = some (.int .i64 ((rd_T66 l1 x9_3).f2)) ∧ w'.cell? ⟨(ad718.add ((x9_3).toNat * 5)).block, (ad718.add ((x9_3).toNat * 5)).off + 3, none⟩ = some (.int .i64 ((rd_T66 l1 x9_3).f3)) ∧ w'.cell? ⟨(ad718.add ((x9_3).toNat * 5)).block, (ad718.add ((x9_3).toNat * 5)).off + 4, none⟩ = some (.string ((rd_T66 l1 x9_3).f4))) ∧ (Kd.R k56 56 w' w.heap.size (fun k_ => some k_ ≠ (s_.2.2.1 : Value).ownBlock ∧ some k_ ≠ (.slice Ao115 x714000_3.length co115 : Value).ownBlock) s_.1 t714) ∧ (Kd.R k66 66 w' w.heap.size (fun _ => True) s_.2.1 y719) ∧ (Kd.R k56 56 w' w.heap.size (fun k_ => some k_ ≠ (s_.1 : Value).ownBlock ∧ some k_ ≠ (.slice Ao115 x714000_3.length co115 : Value).ownBlock) s_.2.2.1 t722) ∧ (Kd.R (Kd.int .i64) 3 w' w.heap.size (fun k_ => some k_ ≠ (u6 : Value).ownBlock) u5 x5_3) ∧ (Kd.R (Kd.int .i64) 3 w' w.heap.size (fun k_ => some k_ ≠ (u5 : Value).ownBlock) u6 x6_3) ∧ (Kd.R k56 56 w' w.heap.size (fun k_ => some k_ ≠ (s_.1 : Value).ownBlock ∧ some k_ ≠ (s_.2.2.1 : Value).ownBlock) (.slice Ao115 x714000_3.length co115) x714000_3) ∧ (w'.heap[gb700]? = some (.cells #[.slice A0_0 l0_0.length c0_0, .int .i64 a0_1] 24 (0, 0))) ∧ (w'.heap[gb713]? = some (.cells #[.slice Ao115 x714000_3.length co115, .int .i64 x714001_3] 24 (0, 0))) ∧ (w'.heap[s_.2.2.2]? = some (.cells #[.slice none 0 0, .int .i64 0] 24 (0, 0))) ∧ (w.heap.size ≤ s_.2.2.2) ∧ (w.heap.size ≤ s_.2.2.2) ∧ (gb700 ≠ s_.2.2.2) ∧ (s_.2.2.2 ≠ gb700) ∧ (gb713 ≠ s_.2.2.2) ∧ (s_.2.2.2 ≠ gb713) ∧ (Below w.heap.size w w')) ?_ ?_
           rotate_left
           ·
            intro hJ1_6_7_12
            refine join_ (σ := Value × Value × Value) 4 #[true, true, true, true, true, true, true, true, true, true, true, true, false, false, false, false] (fun s_ => [(60, .agg #[s_.1, .int .i64 t717]), (65, s_.2.1), (66, .tuple #[.agg #[s_.2.2, .int .i64 t725], .int .i64 t726, .int .i64 t727]), (58, .tuple #[.agg #[s_.2.2, .int .i64 t725], .int .i64 t726, .int .i64 t727]), (67, .agg #[s_.2.2, .int .i64 t725]), (68, .int .i64 t726), (69, .int .i64 t727)]) (fun s_ w' => (w'.cell? ⟨gb713, 0, none⟩ = some (.slice Ao115 x714000_3.length co115) ∧ w'.cell? ⟨gb713, 1, none⟩ = some (.int .i64 x714001_3) ∧ w'.cell? (ad718.add ((x9_3).toNat * 5)) = some (.int .i64 ((rd_T66 l1 x9_3).f0)) ∧ w'.cell? ⟨(ad718.add ((x9_3).toNat * 5)).block, (ad718.add ((x9_3).toNat * 5)).off + 1, none⟩ = some (.int .i64 ((rd_T66 l1 x9_3).f1)) ∧ w'.cell? ⟨(ad718.add ((x9_3).toNat * 5)).block, (ad718.add ((x9_3).toNat * 5)).off + 2, none⟩ = some (.int .i64 ((rd_T66 l1 x9_3).f2)) ∧ w'.cell? ⟨(ad718.add ((x9_3).toNat * 5)).block, (ad718.add ((x9_3).toNat * 5)).off + 3, none⟩ = some (.int .i64 ((rd_T66 l1 x9_3).f3)) ∧ w'.cell? ⟨(ad718.add ((x9_3).toNat * 5)).block, (ad718.add ((x9_3).toNat * 5)).off + 4, none⟩ = some (.string ((rd_T66 l1 x9_3).f4))) ∧ (Kd.R k56 56 w' w.heap.size (fun k_ => some k_ ≠ (s_.2.2 : Value).ownBlock ∧ some k_ ≠ (.slice Ao115 x714000_3.length co115 : Value).ownBlock) s_.1 t714) ∧ (Kd.R k66 66 w' w.heap.size (fun _ => True) s_.2.1 y719) ∧ (Kd.R k56 56 w' w.heap.size (fun k_ => some k_ ≠ (s_.1 : Value).ownBlock ∧ some k_ ≠ (.slice Ao115 x714000_3.length co115 : Value).ownBlock) s_.2.2 t722) ∧ (Kd.R (Kd.int .i64) 3 w' w.heap.size (fun k_ => some k_ ≠ (u6 : Value).ownBlock) u5 x5_3) ∧ (Kd.R (Kd.int .i64) 3 w' w.heap.size (fun k_ => some k_ ≠ (u5 : Value).ownBlock) u6 x6_3) ∧ (Kd.R k56 56 w' w.heap.size (fun k_ => some k_ ≠ (s_.1 : Value).ownBlock ∧ some k_ ≠ (s_.2.2 : Value).ownBlock) (.slice Ao115 x714000_3.length co115) x714000_3) ∧ (w'.heap[gb700]? = some (.cells #[.slice A0_0 l0_0.length c0_0, .int .i64 a0_1] 24 (0, 0))) ∧ (w'.heap[gb713]? = some (.cells #[.slice Ao115 x714000_3.length co115, .int .i64 x714001_3] 24 (0, 0))) ∧ (Below w.heap.size w w')) ?_ ?_
            rotate_left
            ·
             intro hJ1_6_7
             refine join_ (σ := Value × Value × Nat) 8 #[true, true, true, true, true, true, true, false, false, false, false, false, true, false, false, false] (fun s_ => [(60, .agg #[s_.1, .int .i64 t717]), (65, s_.2.1), (10, .pointer (some ⟨s_.2.2, 0, none⟩))]) (fun s_ w' => (w'.cell? ⟨gb713, 0, none⟩ = some (.slice Ao115 x714000_3.length co115) ∧ w'.cell? ⟨gb713, 1, none⟩ = some (.int .i64 x714001_3) ∧ w'.cell? (ad718.add ((x9_3).toNat * 5)) = some (.int .i64 ((rd_T66 l1 x9_3).f0)) ∧ w'.cell? ⟨(ad718.add ((x9_3).toNat * 5)).block, (ad718.add ((x9_3).toNat * 5)).off + 1, none⟩ = some (.int .i64 ((rd_T66 l1 x9_3).f1)) ∧ w'.cell? ⟨(ad718.add ((x9_3).toNat * 5)).block, (ad718.add ((x9_3).toNat * 5)).off + 2, none⟩ = some (.int .i64 ((rd_T66 l1 x9_3).f2)) ∧ w'.cell? ⟨(ad718.add ((x9_3).toNat * 5)).block, (ad718.add ((x9_3).toNat * 5)).off + 3, none⟩ = some (.int .i64 ((rd_T66 l1 x9_3).f3)) ∧ w'.cell? ⟨(ad718.add ((x9_3).toNat * 5)).block, (ad718.add ((x9_3).toNat * 5)).off + 4, none⟩ = some (.string ((rd_T66 l1 x9_3).f4))) ∧ (Kd.R k56 56 w' w.heap.size (fun k_ => some k_ ≠ (.slice Ao115 x714000_3.length co115 : Value).ownBlock) s_.1 t714) ∧ (Kd.R k66 66 w' w.heap.size (fun _ => True) s_.2.1 y719) ∧ (Kd.R (Kd.int .i64) 3 w' w.heap.size (fun k_ => some k_ ≠ (u6 : Value).ownBlock) u5 x5_3) ∧ (Kd.R (Kd.int .i64) 3 w' w.heap.size (fun k_ => some k_ ≠ (u5 : Value).ownBlock) u6 x6_3) ∧ (Kd.R k56 56 w' w.heap.size (fun k_ => some k_ ≠ (s_.1 : Value).ownBlock) (.slice Ao115 x714000_3.length co115) x714000_3) ∧ (w'.heap[gb700]? = some (.cells #[.slice A0_0 l0_0.length c0_0, .int .i64 a0_1] 24 (0, 0))) ∧ (w'.heap[gb713]? = some (.cells #[.slice Ao115 x714000_3.length co115, .int .i64 x714001_3] 24 (0, 0))) ∧ (w'.heap[s_.2.2]? = some (.cells #[.slice none 0 0, .int .i64 0] 24 (0, 0))) ∧ (w.heap.size ≤ s_.2.2) ∧ (w.heap.size ≤ s_.2.2) ∧ (gb700 ≠ s_.2.2) ∧ (s_.2.2 ≠ gb700) ∧ (gb713 ≠ s_.2.2) ∧ (s_.2.2 ≠ gb713) ∧ (Below w.heap.size w w')) ?_ ?_
             rotate_left
             ·
              intro hJ1_6_12
              refine join_ (σ := Value × Value) 9 #[true, true, true, true, true, true, true, false, false, false, false, false, false, false, false, false] (fun s_ => [(60, .agg #[s_.1, .int .i64 t717]), (65, s_.2)]) (fun s_ w' => (w'.cell? ⟨gb713, 0, none⟩ = some (.slice Ao115 x714000_3.length co115) ∧ w'.cell? ⟨gb713, 1, none⟩ = some (.int .i64 x714001_3) ∧ w'.cell? (ad718.add ((x9_3).toNat * 5)) = some (.int .i64 ((rd_T66 l1 x9_3).f0)) ∧ w'.cell? ⟨(ad718.add ((x9_3).toNat * 5)).block, (ad718.add ((x9_3).toNat * 5)).off + 1, none⟩ = some (.int .i64 ((rd_T66 l1 x9_3).f1)) ∧ w'.cell? ⟨(ad718.add ((x9_3).toNat * 5)).block, (ad718.add ((x9_3).toNat * 5)).off + 2, none⟩ = some (.int .i64 ((rd_T66 l1 x9_3).f2)) ∧ w'.cell? ⟨(ad718.add ((x9_3).toNat * 5)).block, (ad718.add ((x9_3).toNat * 5)).off + 3, none⟩ = some (.int .i64 ((rd_T66 l1 x9_3).f3)) ∧ w'.cell? ⟨(ad718.add ((x9_3).toNat * 5)).block, (ad718.add ((x9_3).toNat * 5)).off + 4, none⟩ = some (.string ((rd_T66 l1 x9_3).f4))) ∧ (Kd.R k56 56 w' w.heap.size (fun k_ => some k_ ≠ (.slice Ao115 x714000_3.length co115 : Value).ownBlock) s_.1 t714) ∧ (Kd.R k66 66 w' w.heap.size (fun _ => True) s_.2 y719) ∧ (Kd.R (Kd.int .i64) 3 w' w.heap.size (fun k_ => some k_ ≠ (u6 : Value).ownBlock) u5 x5_3) ∧ (Kd.R (Kd.int .i64) 3 w' w.heap.size (fun k_ => some k_ ≠ (u5 : Value).ownBlock) u6 x6_3) ∧ (Kd.R k56 56 w' w.heap.size (fun k_ => some k_ ≠ (s_.1 : Value).ownBlock) (.slice Ao115 x714000_3.length co115) x714000_3) ∧ (w'.heap[gb700]? = some (.cells #[.slice A0_0 l0_0.length c0_0, .int .i64 a0_1] 24 (0, 0))) ∧ (w'.heap[gb713]? = some (.cells #[.slice Ao115 x714000_3.length co115, .int .i64 x714001_3] 24 (0, 0))) ∧ (Below w.heap.size w w')) ?_ ?_
              rotate_left
              ·
               intro hJ1_6
               refine join_ (σ := Value × Nat) 9 #[true, true, true, true, true, true, false, false, false, false, false, false, true, false, false, false] (fun s_ => [(60, .agg #[s_.1, .int .i64 t717]), (10, .pointer (some ⟨s_.2, 0, none⟩))]) (fun s_ w' => (w'.cell? ⟨gb713, 0, none⟩ = some (.slice Ao115 x714000_3.length co115) ∧ w'.cell? ⟨gb713, 1, none⟩ = some (.int .i64 x714001_3) ∧ w'.cell? (ad718.add ((x9_3).toNat * 5)) = some (.int .i64 ((rd_T66 l1 x9_3).f0)) ∧ w'.cell? ⟨(ad718.add ((x9_3).toNat * 5)).block, (ad718.add ((x9_3).toNat * 5)).off + 1, none⟩ = some (.int .i64 ((rd_T66 l1 x9_3).f1)) ∧ w'.cell? ⟨(ad718.add ((x9_3).toNat * 5)).block, (ad718.add ((x9_3).toNat * 5)).off + 2, none⟩ = some (.int .i64 ((rd_T66 l1 x9_3).f2)) ∧ w'.cell? ⟨(ad718.add ((x9_3).toNat * 5)).block, (ad718.add ((x9_3).toNat * 5)).off + 3, none⟩ = some (.int .i64 ((rd_T66 l1 x9_3).f3)) ∧ w'.cell? ⟨(ad718.add ((x9_3).toNat * 5)).block, (ad718.add ((x9_3).toNat * 5)).off + 4, none⟩ = some (.string ((rd_T66 l1 x9_3).f4))) ∧ (Kd.R k56 56 w' w.heap.size (fun k_ => some k_ ≠ (.slice Ao115 x714000_3.length co115 : Value).ownBlock) s_.1 t714) ∧ (Kd.R (Kd.int .i64) 3 w' w.heap.size (fun k_ => some k_ ≠ (u6 : Value).ownBlock) u5 x5_3) ∧ (Kd.R (Kd.int .i64) 3 w' w.heap.size (fun k_ => some k_ ≠ (u5 : Value).ownBlock) u6 x6_3) ∧ (Kd.R k56 56 w' w.heap.size (fun k_ => some k_ ≠ (s_.1 : Value).ownBlock) (.slice Ao115 x714000_3.length co115) x714000_3) ∧ (w'.heap[gb700]? = some (.cells #[.slice A0_0 l0_0.length c0_0, .int .i64 a0_1] 24 (0, 0))) ∧ (w'.heap[gb713]? = some (.cells #[.slice Ao115 x714000_3.length co115, .int .i64 x714001_3] 24 (0, 0))) ∧ (w'.heap[s_.2]? = some (.cells #[.slice none 0 0, .int .i64 0] 24 (0, 0))) ∧ (w.heap.size ≤ s_.2) ∧ (w.heap.size ≤ s_.2) ∧ (gb700 ≠ s_.2) ∧ (s_.2 ≠ gb700) ∧ (gb713 ≠ s_.2) ∧ (s_.2 ≠ gb713) ∧ (Below w.heap.size w w')) ?_ ?_
               rotate_left
               ·
                intro hJ1_12
                refine join_ (σ := Value × Nat) 9 #[true, false, true, true, true, true, true, false, false, false, false, false, true, false, false, false] (fun s_ => [(65, s_.1), (10, .pointer (some ⟨s_.2, 0, none⟩))]) (fun s_ w' => (w'.cell? ⟨gb713, 0, none⟩ = some (.slice Ao115 x714000_3.length co115) ∧ w'.cell? ⟨gb713, 1, none⟩ = some (.int .i64 x714001_3) ∧ w'.cell? (ad718.add ((x9_3).toNat * 5)) = some (.int .i64 ((rd_T66 l1 x9_3).f0)) ∧ w'.cell? ⟨(ad718.add ((x9_3).toNat * 5)).block, (ad718.add ((x9_3).toNat * 5)).off + 1, none⟩ = some (.int .i64 ((rd_T66 l1 x9_3).f1)) ∧ w'.cell? ⟨(ad718.add ((x9_3).toNat * 5)).block, (ad718.add ((x9_3).toNat * 5)).off + 2, none⟩ = some (.int .i64 ((rd_T66 l1 x9_3).f2)) ∧ w'.cell? ⟨(ad718.add ((x9_3).toNat * 5)).block, (ad718.add ((x9_3).toNat * 5)).off + 3, none⟩ = some (.int .i64 ((rd_T66 l1 x9_3).f3)) ∧ w'.cell? ⟨(ad718.add ((x9_3).toNat * 5)).block, (ad718.add ((x9_3).toNat * 5)).off + 4, none⟩ = some (.string ((rd_T66 l1 x9_3).f4))) ∧ (Kd.R k66 66 w' w.heap.size (fun _ => True) s_.1 y719) ∧ (Kd.R (Kd.int .i64) 3 w' w.heap.size (fun k_ => some k_ ≠ (u6 : Value).ownBlock) u5 x5_3) ∧ (Kd.R (Kd.int .i64) 3 w' w.heap.size (fun k_ => some k_ ≠ (u5 : Value).ownBlock) u6 x6_3) ∧ (Kd.R k56 56 w' w.heap.size (fun _ => True) (.slice Ao115 x714000_3.length co115) x714000_3) ∧ (w'.heap[gb700]? = some (.cells #[.slice A0_0 l0_0.length c0_0, .int .i64 a0_1] 24 (0, 0))) ∧ (w'.heap[gb713]? = some (.cells #[.slice Ao115 x714000_3.length co115, .int .i64 x714001_3] 24 (0, 0))) ∧ (w'.heap[s_.2]? = some (.cells #[.slice none 0 0, .int .i64 0] 24 (0, 0))) ∧ (w.heap.size ≤ s_.2) ∧ (w.heap.size ≤ s_.2) ∧ (gb700 ≠ s_.2) ∧ (s_.2 ≠ gb700) ∧ (gb713 ≠ s_.2) ∧ (s_.2 ≠ gb713) ∧ (Below w.heap.size w w')) ?_ ?_
                rotate_left
                ·
                 intro hJ6_12
                 refine join_ (σ := Value) 10 #[true, true, true, true, true, true, false, false, false, false, false, false, false, false, false, false] (fun s_ => [(60, .agg #[s_, .int .i64 t717])]) (fun s_ w' => (w'.cell? ⟨gb713, 0, none⟩ = some (.slice Ao115 x714000_3.length co115) ∧ w'.cell? ⟨gb713, 1, none⟩ = some (.int .i64 x714001_3) ∧ w'.cell? (ad718.add ((x9_3).toNat * 5)) = some (.int .i64 ((rd_T66 l1 x9_3).f0)) ∧ w'.cell? ⟨(ad718.add ((x9_3).toNat * 5)).block, (ad718.add ((x9_3).toNat * 5)).off + 1, none⟩ = some (.int .i64 ((rd_T66 l1 x9_3).f1)) ∧ w'.cell? ⟨(ad718.add ((x9_3).toNat * 5)).block, (ad718.add ((x9_3).toNat * 5)).off + 2, none⟩ = some (.int .i64 ((rd_T66 l1 x9_3).f2)) ∧ w'.cell? ⟨(ad718.add ((x9_3).toNat * 5)).block, (ad718.add ((x9_3).toNat * 5)).off + 3, none⟩ = some (.int .i64 ((rd_T66 l1 x9_3).f3)) ∧ w'.cell? ⟨(ad718.add ((x9_3).toNat * 5)).block, (ad718.add ((x9_3).toNat * 5)).off + 4, none⟩ = some (.string ((rd_T66 l1 x9_3).f4))) ∧ (Kd.R k56 56 w' w.heap.size (fun k_ => some k_ ≠ (.slice Ao115 x714000_3.length co115 : Value).ownBlock) s_ t714) ∧ (Kd.R (Kd.int .i64) 3 w' w.heap.size (fun k_ => some k_ ≠ (u6 : Value).ownBlock) u5 x5_3) ∧ (Kd.R (Kd.int .i64) 3 w' w.heap.size (fun k_ => some k_ ≠ (u5 : Value).ownBlock) u6 x6_3) ∧ (Kd.R k56 56 w' w.heap.size (fun k_ => some k_ ≠ (s_ : Value).ownBlock) (.slice Ao115 x714000_3.length co115) x714000_3) ∧ (w'.heap[gb700]? = some (.cells #[.slice A0_0 l0_0.length c0_0, .int .i64 a0_1] 24 (0, 0))) ∧ (w'.heap[gb713]? = some (.cells #[.slice Ao115 x714000_3.length co115, .int .i64 x714001_3] 24 (0, 0))) ∧ (Below w.heap.size w w')) ?_ ?_
                 rotate_left
                 ·
                  intro hJ1
                  refine join_ (σ := Value) 10 #[true, false, true, true, true, true, true, false, false, false, false, false, false, false, false, false] (fun s_ => [(65, s_)]) (fun s_ w' => (w'.cell? ⟨gb713, 0, none⟩ = some (.slice Ao115 x714000_3.length co115) ∧ w'.cell? ⟨gb713, 1, none⟩ = some (.int .i64 x714001_3) ∧ w'.cell? (ad718.add ((x9_3).toNat * 5)) = some (.int .i64 ((rd_T66 l1 x9_3).f0)) ∧ w'.cell? ⟨(ad718.add ((x9_3).toNat * 5)).block, (ad718.add ((x9_3).toNat * 5)).off + 1, none⟩ = some (.int .i64 ((rd_T66 l1 x9_3).f1)) ∧ w'.cell? ⟨(ad718.add ((x9_3).toNat * 5)).block, (ad718.add ((x9_3).toNat * 5)).off + 2, none⟩ = some (.int .i64 ((rd_T66 l1 x9_3).f2)) ∧ w'.cell? ⟨(ad718.add ((x9_3).toNat * 5)).block, (ad718.add ((x9_3).toNat * 5)).off + 3, none⟩ = some (.int .i64 ((rd_T66 l1 x9_3).f3)) ∧ w'.cell? ⟨(ad718.add ((x9_3).toNat * 5)).block, (ad718.add ((x9_3).toNat * 5)).off + 4, none⟩ = some (.string ((rd_T66 l1 x9_3).f4))) ∧ (Kd.R k66 66 w' w.heap.size (fun _ => True) s_ y719) ∧ (Kd.R (Kd.int .i64) 3 w' w.heap.size (fun k_ => some k_ ≠ (u6 : Value).ownBlock) u5 x5_3) ∧ (Kd.R (Kd.int .i64) 3 w' w.heap.size (fun k_ => some k_ ≠ (u5 : Value).ownBlock) u6 x6_3) ∧ (Kd.R k56 56 w' w.heap.size (fun _ => True) (.slice Ao115 x714000_3.length co115) x714000_3) ∧ (w'.heap[gb700]? = some (.cells #[.slice A0_0 l0_0.length c0_0, .int .i64 a0_1] 24 (0, 0))) ∧ (w'.heap[gb713]? = some (.cells #[.slice Ao115 x714000_3.length co115, .int .i64 x714001_3] 24 (0, 0))) ∧ (Below w.heap.size w w')) ?_ ?_
                  rotate_left
                  ·
                   intro hJ6
                   refine join_ (σ := Nat) 10 #[true, false, true, true, true, true, false, false, false, false, false, false, true, false, false, false] (fun s_ => [(10, .pointer (some ⟨s_, 0, none⟩))]) (fun s_ w' => (w'.cell? ⟨gb713, 0, none⟩ = some (.slice Ao115 x714000_3.length co115) ∧ w'.cell? ⟨gb713, 1, none⟩ = some (.int .i64 x714001_3) ∧ w'.cell? (ad718.add ((x9_3).toNat * 5)) = some (.int .i64 ((rd_T66 l1 x9_3).f0)) ∧ w'.cell? ⟨(ad718.add ((x9_3).toNat * 5)).block, (ad718.add ((x9_3).toNat * 5)).off + 1, none⟩ = some (.int .i64 ((rd_T66 l1 x9_3).f1)) ∧ w'.cell? ⟨(ad718.add ((x9_3).toNat * 5)).block, (ad718.add ((x9_3).toNat * 5)).off + 2, none⟩ = some (.int .i64 ((rd_T66 l1 x9_3).f2)) ∧ w'.cell? ⟨(ad718.add ((x9_3).toNat * 5)).block, (ad718.add ((x9_3).toNat * 5)).off + 3, none⟩ = some (.int .i64 ((rd_T66 l1 x9_3).f3)) ∧ w'.cell? ⟨(ad718.add ((x9_3).toNat * 5)).block, (ad718.add ((x9_3).toNat * 5)).off + 4, none⟩ = some (.string ((rd_T66 l1 x9_3).f4))) ∧ (Kd.R (Kd.int .i64) 3 w' w.heap.size (fun k_ => some k_ ≠ (u6 : Value).ownBlock) u5 x5_3) ∧ (Kd.R (Kd.int .i64) 3 w' w.heap.size (fun k_ => some k_ ≠ (u5 : Value).ownBlock) u6 x6_3) ∧ (Kd.R k56 56 w' w.heap.size (fun _ => True) (.slice Ao115 x714000_3.length co115) x714000_3) ∧ (w'.heap[gb700]? = some (.cells #[.slice A0_0 l0_0.length c0_0, .int .i64 a0_1] 24 (0, 0))) ∧ (w'.heap[gb713]? = some (.cells #[.slice Ao115 x714000_3.length co115, .int .i64 x714001_3] 24 (0, 0))) ∧ (w'.heap[s_]? = some (.cells #[.slice none 0 0, .int .i64 0] 24 (0, 0))) ∧ (w.heap.size ≤ s_) ∧ (w.heap.size ≤ s_) ∧ (gb700 ≠ s_) ∧ (s_ ≠ gb700) ∧ (gb713 ≠ s_) ∧ (s_ ≠ gb713) ∧ (Below w.heap.size w w')) ?_ ?_
                   rotate_left
                   ·
                    intro hJ12
                    refine three_ (i := 1) (j := 6) (k := 12) (Ni := some 60) (Nj := some 65) (Nk := some 10) #[true, true, true, true, true, true, false, false, false, false, false, false, false, false, false, false] #[true, false, true, true, true, true, true, false, false, false, false, false, false, false, false, false] #[true, false, true, true, true, true, false, false, false, false, false, false, true, false, false, false] rfl rfl rfl rfl rfl rfl (three_of HT_.out (by kernel_rfl)) (by decide) (by decide) (by decide) (fun K hK => ?_) (fun K hK => ?_) (fun K hK => ?_)
                    ·
                     refine goes_ Try.func13 (by kernel_rfl) rfl #[.agg #[.slice Ao115 x714000_3.length co115, .int .i64 x714001_3]] (by rfl) rfl rfl (by (try simp only [List.map_toArray, List.map_cons, List.map_nil]); first | done | rfl | (simp only [List.length_drop, List.length_take]; rfl)) ?_
                     with_reducible refine (midrangeref04_Own.calls _ _ x714000_3 x714001_3 t714 t717 _ ?side1 ?side2 A36.out).mono ?_
                     (case side1 => exact pc_ (Kd.R_reads' HO_714000.out).2.2)
                     (case side2 => exact (Kd.R_reads' HO_714000.out).2.1)
                     rintro e w117 ⟨v715, rfl, ho0, hb⟩
                     refine ⟨_, rfl, ?_⟩
                     replace HO_5 := Aside0.mk (Kd.R_below (rk_ HO_5) hb)
                     replace HO_6 := Aside0.mk (Kd.R_below (rk_ HO_6) hb)
                     have HO716 := Aside0.mk (Kd.R_lower (Kd.R_new' ho0 (Kd.R_lt (rk_ HO_714000))) (below_size (pb_ HB)))
                     replace HO_714000 := Aside0.mk (Kd.R_elder' (rk_ HO_714000) (Kd.R_base ho0) hb)
                     replace BK700 := kb_ BK700 hb
                     replace BK713 := kb_ BK713 hb
                     replace HB := sb_ HB hb
                     (try clear hb)
                     (try clear hb2)
                     (try clear hk)
                     (try clear hi)
                     (try clear ho0)
                     refine hK.out _ _ ⟨cy_ BK713 0, cy_ BK713 1, (pw_cell_below HB.out hw718_0), (pw_cell_below HB.out hw718_1), (pw_cell_below HB.out hw718_2), (pw_cell_below HB.out hw718_3), (pw_cell_below HB.out hw718_4)⟩ (fun hHeld => ?_)
                     clear hK K
                     refine nn_ 60 ?_
                     exact norm_ pa_ (hJ1 (v715) _ ⟨hHeld, (by (with_reducible repeat (first | apply Kd.R_alloc | apply Kd.R_drewN | apply Kd.R_drew)); exact Kd.R_mono HO716.out (fun _ hk => hk.2)), (rk_ HO_5), (rk_ HO_6), (by (with_reducible repeat (first | apply Kd.R_alloc | apply Kd.R_drewN | apply Kd.R_drew)); exact Kd.R_mono HO_714000.out (fun _ hk => hk.2)), (pk_ BK700), (pk_ BK713), (pb_ HB)⟩)
                    ·
                     refine Kd.R_lit_step k66 _ 66 ?hg (N := 65) ?hd (xs := ([(⟨(rd_T66 l1 x9_3).f0, (rd_T66 l1 x9_3).f1, (rd_T66 l1 x9_3).f2, (rd_T66 l1 x9_3).f3, (rd_T66 l1 x9_3).f4⟩ : S66)] : List (S66))) (inner := [.int .i64 ((rd_T66 l1 x9_3).f0), .int .i64 ((rd_T66 l1 x9_3).f1), .int .i64 ((rd_T66 l1 x9_3).f2), .int .i64 ((rd_T66 l1 x9_3).f3), .string ((rd_T66 l1 x9_3).f4)]) (ok := fun _ => True) (okp := fun _ => True) ?hr ?hp (fun _ hk => hk) trivial (Below.refl _ _) (Nat.le_refl _) (by simp) ?_; (case hd => rfl); (case hg => rfl); (case hr => first | (go_simp; done) | (go_simp; rfl)); (case hp => exact (Reps.c5 (show Kd.M k66 _ _ _ (⟨(rd_T66 l1 x9_3).f0, (rd_T66 l1 x9_3).f1, (rd_T66 l1 x9_3).f2, (rd_T66 l1 x9_3).f3, (rd_T66 l1 x9_3).f4⟩ : S66) [.int .i64 ((rd_T66 l1 x9_3).f0), .int .i64 ((rd_T66 l1 x9_3).f1), .int .i64 ((rd_T66 l1 x9_3).f2), .int .i64 ((rd_T66 l1 x9_3).f3), .string ((rd_T66 l1 x9_3).f4)] from (k66_mkM _ _ _ (⟨(rd_T66 l1 x9_3).f0, (rd_T66 l1 x9_3).f1, (rd_T66 l1 x9_3).f2, (rd_T66 l1 x9_3).f3, (rd_T66 l1 x9_3).f4⟩ : S66) )) (Reps.none _ _)))
                     intro v720 w117 ho118 hb hg_ hnew_
                     clear hg_ hnew_
                     (first | rw [← Ny719.out] at ho118 | (simp only [Int.reduceToNat] at ho118; rw [← Ny719.out] at ho118))
                     replace HO_5 := Aside0.mk (Kd.R_below (rk_ HO_5) hb)
                     replace HO_6 := Aside0.mk (Kd.R_below (rk_ HO_6) hb)
                     replace HO_714000 := Aside0.mk (Kd.R_below (rk_ HO_714000) hb)
                     have HO721 := Aside0.mk (Kd.R_lower ho118 (below_size (pb_ HB)))
                     replace BK700 := kb_ BK700 hb
                     replace BK713 := kb_ BK713 hb
                     replace HB := sb_ HB hb
                     clear hb ho118
                     refine hK.out _ _ ⟨cy_ BK713 0, cy_ BK713 1, (pw_cell_below HB.out hw718_0), (pw_cell_below HB.out hw718_1), (pw_cell_below HB.out hw718_2), (pw_cell_below HB.out hw718_3), (pw_cell_below HB.out hw718_4)⟩ (fun hHeld => ?_)
                     clear hK K
                     refine nn_ 65 ?_
                     exact norm_ pa_ (hJ6 (v720) _ ⟨hHeld, (rk_ HO721), (rk_ HO_5), (rk_ HO_6), (rk_ HO_714000), (pk_ BK700), (pk_ BK713), (pb_ HB)⟩)
                    skip
                    refine box_step ?hg (N := 10) ?hd (cs := #[.slice none 0 0, .int .i64 0]) (t := 24) ?hr ?_; (case hd => rfl); (case hg => rfl); (case hr => first | (go_simp; done) | (go_simp; rfl))
                    intro gb728 hg w117 hbox hb
                    replace HO_5 := Aside0.mk (Kd.R_below (rk_ HO_5) hb)
                    replace HO_6 := Aside0.mk (Kd.R_below (rk_ HO_6) hb)
                    replace HO_714000 := Aside0.mk (Kd.R_below (rk_ HO_714000) hb)
                    have BK728 := Aside0.mk (hbox)
                    have GW728 := gw_ hg HB
                    have GE728 := gw_ hg HB
                    replace HB := sb_ HB hb
                    have NB700_728 := nl_ hg BK700
                    have NB728_700 := ng_ hg BK700
                    replace BK700 := kb_ BK700 hb
                    have NB713_728 := nl_ hg BK713
                    have NB728_713 := ng_ hg BK713
                    replace BK713 := kb_ BK713 hb
                    clear hb hbox hg
                    refine hK.out _ _ ⟨cy_ BK713 0, cy_ BK713 1, (pw_cell_below HB.out hw718_0), (pw_cell_below HB.out hw718_1), (pw_cell_below HB.out hw718_2), (pw_cell_below HB.out hw718_3), (pw_cell_below HB.out hw718_4)⟩ (fun hHeld => ?_)
                    clear hK K
                    refine nn_ 10 ?_
                    exact norm_ pa_ (hJ12 (gb728) _ ⟨hHeld, (rk_ HO_5), (rk_ HO_6), (rk_ HO_714000), (pk_ BK700), (pk_ BK713), (pk_ BK728), GW728.out, GE728.out, NB700_728.out, NB728_700.out, NB713_728.out, NB728_713.out, (pb_ HB)⟩)
                   skip
                   clear HO_5 HO_6 HO_714000 BK700 BK713 HB
                   rintro gb728 w118 ⟨hHeld, HO_5, HO_6, HO_714000, BK700, BK713, BK728, GW728, GE728, NB700_728, NB728_700, NB713_728, NB728_713, HB⟩
                   try dsimp only at hHeld HO_5 HO_6 HO_714000 BK700 BK713 BK728 GW728 GE728 NB700_728 NB728_700 NB713_728 NB728_713 HB
                   replace HO_5 := Aside0.mk HO_5
                   replace HO_6 := Aside0.mk HO_6
                   replace HO_714000 := Aside0.mk HO_714000
                   replace BK700 := Aside0.mk BK700
                   replace BK713 := Aside0.mk BK713
                   replace BK728 := Aside0.mk BK728
                   replace GW728 := Aside0.mk GW728
                   replace GE728 := Aside0.mk GE728
                   replace NB700_728 := Aside0.mk NB700_728
                   replace NB728_700 := Aside0.mk NB728_700
                   replace NB713_728 := Aside0.mk NB713_728
                   replace NB728_713 := Aside0.mk NB728_713
                   replace HB := Aside0.mk HB
                   refine nm_ ?_
                   refine two_ (i := 1) (j := 6) (Ni := some 60) (Nj := some 65) #[true, true, true, true, true, true, false, false, false, false, false, false, true, false, false, false] #[true, false, true, true, true, true, true, false, false, false, false, false, true, false, false, false] rfl rfl rfl rfl (two_of HT_.out (by kernel_rfl)) (by decide) (by decide) (fun K hK => ?_) (fun K hK => ?_)
                   ·
                    refine goes_ Try.func13 (by kernel_rfl) rfl #[.agg #[.slice Ao115 x714000_3.length co115, .int .i64 x714001_3]] (by rfl) rfl rfl (by (try simp only [List.map_toArray, List.map_cons, List.map_nil]); first | done | rfl | (simp only [List.length_drop, List.length_take]; rfl)) ?_
                    with_reducible refine (midrangeref04_Own.calls _ _ x714000_3 x714001_3 t714 t717 _ ?side1 ?side2 A36.out).mono ?_
                    (case side1 => exact pc_ (Kd.R_reads' HO_714000.out).2.2)
                    (case side2 => exact (Kd.R_reads' HO_714000.out).2.1)
                    rintro e w119 ⟨v715, rfl, ho0, hb⟩
                    refine ⟨_, rfl, ?_⟩
                    replace HO_5 := Aside0.mk (Kd.R_below (rk_ HO_5) hb)
                    replace HO_6 := Aside0.mk (Kd.R_below (rk_ HO_6) hb)
                    have HO716 := Aside0.mk (Kd.R_lower (Kd.R_new' ho0 (Kd.R_lt (rk_ HO_714000))) (below_size (pb_ HB)))
                    replace HO_714000 := Aside0.mk (Kd.R_elder' (rk_ HO_714000) (Kd.R_base ho0) hb)
                    replace BK700 := kb_ BK700 hb
                    replace BK713 := kb_ BK713 hb
                    replace BK728 := kb_ BK728 hb
                    replace HB := sb_ HB hb
                    (try clear hb)
                    (try clear hb2)
                    (try clear hk)
                    (try clear hi)
                    (try clear ho0)
                    refine hK.out _ _ ⟨cy_ BK713 0, cy_ BK713 1, (pw_cell_below HB.out hw718_0), (pw_cell_below HB.out hw718_1), (pw_cell_below HB.out hw718_2), (pw_cell_below HB.out hw718_3), (pw_cell_below HB.out hw718_4)⟩ (fun hHeld => ?_)
                    clear hK K
                    refine nn_ 60 ?_
                    exact norm_ pa_ (hJ1_12 (v715, gb728) _ ⟨hHeld, (by (with_reducible repeat (first | apply Kd.R_alloc | apply Kd.R_drewN | apply Kd.R_drew)); exact Kd.R_mono HO716.out (fun _ hk => hk.2)), (rk_ HO_5), (rk_ HO_6), (by (with_reducible repeat (first | apply Kd.R_alloc | apply Kd.R_drewN | apply Kd.R_drew)); exact Kd.R_mono HO_714000.out (fun _ hk => hk.2)), (pk_ BK700), (pk_ BK713), (pk_ BK728), GW728.out, GE728.out, NB700_728.out, NB728_700.out, NB713_728.out, NB728_713.out, (pb_ HB)⟩)
                   skip
                   refine Kd.R_lit_step k66 _ 66 ?hg (N := 65) ?hd (xs := ([(⟨(rd_T66 l1 x9_3).f0, (rd_T66 l1 x9_3).f1, (rd_T66 l1 x9_3).f2, (rd_T66 l1 x9_3).f3, (rd_T66 l1 x9_3).f4⟩ : S66)] : List (S66))) (inner := [.int .i64 ((rd_T66 l1 x9_3).f0), .int .i64 ((rd_T66 l1 x9_3).f1), .int .i64 ((rd_T66 l1 x9_3).f2), .int .i64 ((rd_T66 l1 x9_3).f3), .string ((rd_T66 l1 x9_3).f4)]) (ok := fun _ => True) (okp := fun _ => True) ?hr ?hp (fun _ hk => hk) trivial (Below.refl _ _) (Nat.le_refl _) (by simp) ?_; (case hd => rfl); (case hg => rfl); (case hr => first | (go_simp; done) | (go_simp; rfl)); (case hp => exact (Reps.c5 (show Kd.M k66 _ _ _ (⟨(rd_T66 l1 x9_3).f0, (rd_T66 l1 x9_3).f1, (rd_T66 l1 x9_3).f2, (rd_T66 l1 x9_3).f3, (rd_T66 l1 x9_3).f4⟩ : S66) [.int .i64 ((rd_T66 l1 x9_3).f0), .int .i64 ((rd_T66 l1 x9_3).f1), .int .i64 ((rd_T66 l1 x9_3).f2), .int .i64 ((rd_T66 l1 x9_3).f3), .string ((rd_T66 l1 x9_3).f4)] from (k66_mkM _ _ _ (⟨(rd_T66 l1 x9_3).f0, (rd_T66 l1 x9_3).f1, (rd_T66 l1 x9_3).f2, (rd_T66 l1 x9_3).f3, (rd_T66 l1 x9_3).f4⟩ : S66) )) (Reps.none _ _)))
                   intro v720 w119 ho120 hb hg_ hnew_
                   clear hg_ hnew_
                   (first | rw [← Ny719.out] at ho120 | (simp only [Int.reduceToNat] at ho120; rw [← Ny719.out] at ho120))
                   replace HO_5 := Aside0.mk (Kd.R_below (rk_ HO_5) hb)
                   replace HO_6 := Aside0.mk (Kd.R_below (rk_ HO_6) hb)
                   replace HO_714000 := Aside0.mk (Kd.R_below (rk_ HO_714000) hb)
                   have HO721 := Aside0.mk (Kd.R_lower ho120 (below_size (pb_ HB)))
                   replace BK700 := kb_ BK700 hb
                   replace BK713 := kb_ BK713 hb
                   replace BK728 := kb_ BK728 hb
                   replace HB := sb_ HB hb
                   clear hb ho120
                   refine hK.out _ _ ⟨cy_ BK713 0, cy_ BK713 1, (pw_cell_below HB.out hw718_0), (pw_cell_below HB.out hw718_1), (pw_cell_below HB.out hw718_2), (pw_cell_below HB.out hw718_3), (pw_cell_below HB.out hw718_4)⟩ (fun hHeld => ?_)
                   clear hK K
                   refine nn_ 65 ?_
                   exact norm_ pa_ (hJ6_12 (v720, gb728) _ ⟨hHeld, (rk_ HO721), (rk_ HO_5), (rk_ HO_6), (rk_ HO_714000), (pk_ BK700), (pk_ BK713), (pk_ BK728), GW728.out, GE728.out, NB700_728.out, NB728_700.out, NB713_728.out, NB728_713.out, (pb_ HB)⟩)
                  skip
                  clear HO_5 HO_6 HO_714000 BK700 BK713 HB
                  rintro v720 w119 ⟨hHeld, HO721, HO_5, HO_6, HO_714000, BK700, BK713, HB⟩
                  try dsimp only at hHeld HO721 HO_5 HO_6 HO_714000 BK700 BK713 HB
                  replace HO721 := Aside0.mk HO721
                  replace HO_5 := Aside0.mk HO_5
                  replace HO_6 := Aside0.mk HO_6
                  replace HO_714000 := Aside0.mk HO_714000
                  replace BK700 := Aside0.mk BK700
                  replace BK713 := Aside0.mk BK713
                  replace HB := Aside0.mk HB
                  refine nm_ ?_
                  refine two_ (i := 1) (j := 12) (Ni := some 60) (Nj := some 10) #[true, true, true, true, true, true, true, false, false, false, false, false, false, false, false, false] #[true, false, true, true, true, true, true, false, false, false, false, false, true, false, false, false] rfl rfl rfl rfl (two_of HT_.out (by kernel_rfl)) (by decide) (by decide) (fun K hK => ?_) (fun K hK => ?_)
                  ·
                   refine goes_ Try.func13 (by kernel_rfl) rfl #[.agg #[.slice Ao115 x714000_3.length co115, .int .i64 x714001_3]] (by rfl) rfl rfl (by (try simp only [List.map_toArray, List.map_cons, List.map_nil]); first | done | rfl | (simp only [List.length_drop, List.length_take]; rfl)) ?_
                   with_reducible refine (midrangeref04_Own.calls _ _ x714000_3 x714001_3 t714 t717 _ ?side1 ?side2 A36.out).mono ?_
                   (case side1 => exact pc_ (Kd.R_reads' HO_714000.out).2.2)
                   (case side2 => exact (Kd.R_reads' HO_714000.out).2.1)
                   rintro e w120 ⟨v715, rfl, ho0, hb⟩
                   refine ⟨_, rfl, ?_⟩
                   replace HO_5 := Aside0.mk (Kd.R_below (rk_ HO_5) hb)
                   replace HO_6 := Aside0.mk (Kd.R_below (rk_ HO_6) hb)
                   replace HO721 := Aside0.mk (Kd.R_below (rk_ HO721) hb)
                   have HO716 := Aside0.mk (Kd.R_lower (Kd.R_new' ho0 (Kd.R_lt (rk_ HO_714000))) (below_size (pb_ HB)))
                   replace HO_714000 := Aside0.mk (Kd.R_elder' (rk_ HO_714000) (Kd.R_base ho0) hb)
                   replace BK700 := kb_ BK700 hb
                   replace BK713 := kb_ BK713 hb
                   replace HB := sb_ HB hb
                   (try clear hb)
                   (try clear hb2)
                   (try clear hk)
                   (try clear hi)
                   (try clear ho0)
                   refine hK.out _ _ ⟨cy_ BK713 0, cy_ BK713 1, (pw_cell_below HB.out hw718_0), (pw_cell_below HB.out hw718_1), (pw_cell_below HB.out hw718_2), (pw_cell_below HB.out hw718_3), (pw_cell_below HB.out hw718_4)⟩ (fun hHeld => ?_)
                   clear hK K
                   refine nn_ 60 ?_
                   exact norm_ pa_ (hJ1_6 (v715, v720) _ ⟨hHeld, (by (with_reducible repeat (first | apply Kd.R_alloc | apply Kd.R_drewN | apply Kd.R_drew)); exact Kd.R_mono HO716.out (fun _ hk => hk.2)), (rk_ HO721), (rk_ HO_5), (rk_ HO_6), (by (with_reducible repeat (first | apply Kd.R_alloc | apply Kd.R_drewN | apply Kd.R_drew)); exact Kd.R_mono HO_714000.out (fun _ hk => hk.2)), (pk_ BK700), (pk_ BK713), (pb_ HB)⟩)
                  skip
                  refine box_step ?hg (N := 10) ?hd (cs := #[.slice none 0 0, .int .i64 0]) (t := 24) ?hr ?_; (case hd => rfl); (case hg => rfl); (case hr => first | (go_simp; done) | (go_simp; rfl))
                  intro gb728 hg w120 hbox hb
                  replace HO_5 := Aside0.mk (Kd.R_below (rk_ HO_5) hb)
                  replace HO_6 := Aside0.mk (Kd.R_below (rk_ HO_6) hb)
                  replace HO_714000 := Aside0.mk (Kd.R_below (rk_ HO_714000) hb)
                  replace HO721 := Aside0.mk (Kd.R_below (rk_ HO721) hb)
                  have BK728 := Aside0.mk (hbox)
                  have GW728 := gw_ hg HB
                  have GE728 := gw_ hg HB
                  replace HB := sb_ HB hb
                  have NB700_728 := nl_ hg BK700
                  have NB728_700 := ng_ hg BK700
                  replace BK700 := kb_ BK700 hb
                  have NB713_728 := nl_ hg BK713
                  have NB728_713 := ng_ hg BK713
                  replace BK713 := kb_ BK713 hb
                  clear hb hbox hg
                  refine hK.out _ _ ⟨cy_ BK713 0, cy_ BK713 1, (pw_cell_below HB.out hw718_0), (pw_cell_below HB.out hw718_1), (pw_cell_below HB.out hw718_2), (pw_cell_below HB.out hw718_3), (pw_cell_below HB.out hw718_4)⟩ (fun hHeld => ?_)
                  clear hK K
                  refine nn_ 10 ?_
                  exact norm_ pa_ (hJ6_12 (v720, gb728) _ ⟨hHeld, (rk_ HO721), (rk_ HO_5), (rk_ HO_6), (rk_ HO_714000), (pk_ BK700), (pk_ BK713), (pk_ BK728), GW728.out, GE728.out, NB700_728.out, NB728_700.out, NB713_728.out, NB728_713.out, (pb_ HB)⟩)
                 skip
                 clear HO_5 HO_6 HO_714000 BK700 BK713 HB
                 rintro v715 w118 ⟨hHeld, HO716, HO_5, HO_6, HO_714000, BK700, BK713, HB⟩
                 try dsimp only at hHeld HO716 HO_5 HO_6 HO_714000 BK700 BK713 HB
                 replace HO716 := Aside0.mk HO716
                 replace HO_5 := Aside0.mk HO_5
                 replace HO_6 := Aside0.mk HO_6
                 replace HO_714000 := Aside0.mk HO_714000
                 replace BK700 := Aside0.mk BK700
                 replace BK713 := Aside0.mk BK713
                 replace HB := Aside0.mk HB
                 refine nm_ ?_
                 refine two_ (i := 6) (j := 12) (Ni := some 65) (Nj := some 10) #[true, true, true, true, true, true, true, false, false, false, false, false, false, false, false, false] #[true, true, true, true, true, true, false, false, false, false, false, false, true, false, false, false] rfl rfl rfl rfl (two_of HT_.out (by kernel_rfl)) (by decide) (by decide) (fun K hK => ?_) (fun K hK => ?_)
                 ·
                  refine Kd.R_lit_step k66 _ 66 ?hg (N := 65) ?hd (xs := ([(⟨(rd_T66 l1 x9_3).f0, (rd_T66 l1 x9_3).f1, (rd_T66 l1 x9_3).f2, (rd_T66 l1 x9_3).f3, (rd_T66 l1 x9_3).f4⟩ : S66)] : List (S66))) (inner := [.int .i64 ((rd_T66 l1 x9_3).f0), .int .i64 ((rd_T66 l1 x9_3).f1), .int .i64 ((rd_T66 l1 x9_3).f2), .int .i64 ((rd_T66 l1 x9_3).f3), .string ((rd_T66 l1 x9_3).f4)]) (ok := fun _ => True) (okp := fun _ => True) ?hr ?hp (fun _ hk => hk) trivial (Below.refl _ _) (Nat.le_refl _) (by simp) ?_; (case hd => rfl); (case hg => rfl); (case hr => first | (go_simp; done) | (go_simp; rfl)); (case hp => exact (Reps.c5 (show Kd.M k66 _ _ _ (⟨(rd_T66 l1 x9_3).f0, (rd_T66 l1 x9_3).f1, (rd_T66 l1 x9_3).f2, (rd_T66 l1 x9_3).f3, (rd_T66 l1 x9_3).f4⟩ : S66) [.int .i64 ((rd_T66 l1 x9_3).f0), .int .i64 ((rd_T66 l1 x9_3).f1), .int .i64 ((rd_T66 l1 x9_3).f2), .int .i64 ((rd_T66 l1 x9_3).f3), .string ((rd_T66 l1 x9_3).f4)] from (k66_mkM _ _ _ (⟨(rd_T66 l1 x9_3).f0, (rd_T66 l1 x9_3).f1, (rd_T66 l1 x9_3).f2, (rd_T66 l1 x9_3).f3, (rd_T66 l1 x9_3).f4⟩ : S66) )) (Reps.none _ _)))
                  intro v720 w119 ho120 hb hg_ hnew_
                  clear hg_ hnew_
                  (first | rw [← Ny719.out] at ho120 | (simp only [Int.reduceToNat] at ho120; rw [← Ny719.out] at ho120))
                  replace HO_5 := Aside0.mk (Kd.R_below (rk_ HO_5) hb)
                  replace HO_6 := Aside0.mk (Kd.R_below (rk_ HO_6) hb)
                  replace HO_714000 := Aside0.mk (Kd.R_below (rk_ HO_714000) hb)
                  replace HO716 := Aside0.mk (Kd.R_below (rk_ HO716) hb)
                  have HO721 := Aside0.mk (Kd.R_lower ho120 (below_size (pb_ HB)))
                  replace BK700 := kb_ BK700 hb
                  replace BK713 := kb_ BK713 hb
                  replace HB := sb_ HB hb
                  clear hb ho120
                  refine hK.out _ _ ⟨cy_ BK713 0, cy_ BK713 1, (pw_cell_below HB.out hw718_0), (pw_cell_below HB.out hw718_1), (pw_cell_below HB.out hw718_2), (pw_cell_below HB.out hw718_3), (pw_cell_below HB.out hw718_4)⟩ (fun hHeld => ?_)
                  clear hK K
                  refine nn_ 65 ?_
                  exact norm_ pa_ (hJ1_6 (v715, v720) _ ⟨hHeld, (rk_ HO716), (rk_ HO721), (rk_ HO_5), (rk_ HO_6), (rk_ HO_714000), (pk_ BK700), (pk_ BK713), (pb_ HB)⟩)
                 skip
                 refine box_step ?hg (N := 10) ?hd (cs := #[.slice none 0 0, .int .i64 0]) (t := 24) ?hr ?_; (case hd => rfl); (case hg => rfl); (case hr => first | (go_simp; done) | (go_simp; rfl))
                 intro gb728 hg w119 hbox hb
                 replace HO_5 := Aside0.mk (Kd.R_below (rk_ HO_5) hb)
                 replace HO_6 := Aside0.mk (Kd.R_below (rk_ HO_6) hb)
                 replace HO_714000 := Aside0.mk (Kd.R_below (rk_ HO_714000) hb)
                 replace HO716 := Aside0.mk (Kd.R_below (rk_ HO716) hb)
                 have BK728 := Aside0.mk (hbox)
                 have GW728 := gw_ hg HB
                 have GE728 := gw_ hg HB
                 replace HB := sb_ HB hb
                 have NB700_728 := nl_ hg BK700
                 have NB728_700 := ng_ hg BK700
                 replace BK700 := kb_ BK700 hb
                 have NB713_728 := nl_ hg BK713
                 have NB728_713 := ng_ hg BK713
                 replace BK713 := kb_ BK713 hb
                 clear hb hbox hg
                 refine hK.out _ _ ⟨cy_ BK713 0, cy_ BK713 1, (pw_cell_below HB.out hw718_0), (pw_cell_below HB.out hw718_1), (pw_cell_below HB.out hw718_2), (pw_cell_below HB.out hw718_3), (pw_cell_below HB.out hw718_4)⟩ (fun hHeld => ?_)
                 clear hK K
                 refine nn_ 10 ?_
                 exact norm_ pa_ (hJ1_12 (v715, gb728) _ ⟨hHeld, (rk_ HO716), (rk_ HO_5), (rk_ HO_6), (rk_ HO_714000), (pk_ BK700), (pk_ BK713), (pk_ BK728), GW728.out, GE728.out, NB700_728.out, NB728_700.out, NB713_728.out, NB728_713.out, (pb_ HB)⟩)
                skip
                clear HO_5 HO_6 HO_714000 BK700 BK713 HB
                rintro ⟨v720, gb728⟩ w120 ⟨hHeld, HO721, HO_5, HO_6, HO_714000, BK700, BK713, BK728, GW728, GE728, NB700_728, NB728_700, NB713_728, NB728_713, HB⟩
                try dsimp only at hHeld HO721 HO_5 HO_6 HO_714000 BK700 BK713 BK728 GW728 GE728 NB700_728 NB728_700 NB713_728 NB728_713 HB
                replace HO721 := Aside0.mk HO721
                replace HO_5 := Aside0.mk HO_5
                replace HO_6 := Aside0.mk HO_6
                replace HO_714000 := Aside0.mk HO_714000
                replace BK700 := Aside0.mk BK700
                replace BK713 := Aside0.mk BK713
                replace BK728 := Aside0.mk BK728
                replace GW728 := Aside0.mk GW728
                replace GE728 := Aside0.mk GE728
                replace NB700_728 := Aside0.mk NB700_728
                replace NB728_700 := Aside0.mk NB728_700
                replace NB713_728 := Aside0.mk NB713_728
                replace NB728_713 := Aside0.mk NB728_713
                replace HB := Aside0.mk HB
                refine nm_ ?_
                refine one_ (i := 1) (N := some 60) #[true, true, true, true, true, true, true, false, false, false, false, false, true, false, false, false] rfl rfl (one_of HT_.out (by kernel_rfl)) (by decide) (fun K hK => ?_)
                refine goes_ Try.func13 (by kernel_rfl) rfl #[.agg #[.slice Ao115 x714000_3.length co115, .int .i64 x714001_3]] (by rfl) rfl rfl (by (try simp only [List.map_toArray, List.map_cons, List.map_nil]); first | done | rfl | (simp only [List.length_drop, List.length_take]; rfl)) ?_
                with_reducible refine (midrangeref04_Own.calls _ _ x714000_3 x714001_3 t714 t717 _ ?side1 ?side2 A36.out).mono ?_
                (case side1 => exact pc_ (Kd.R_reads' HO_714000.out).2.2)
                (case side2 => exact (Kd.R_reads' HO_714000.out).2.1)
                rintro e w121 ⟨v715, rfl, ho0, hb⟩
                refine ⟨_, rfl, ?_⟩
                replace HO_5 := Aside0.mk (Kd.R_below (rk_ HO_5) hb)
                replace HO_6 := Aside0.mk (Kd.R_below (rk_ HO_6) hb)
                replace HO721 := Aside0.mk (Kd.R_below (rk_ HO721) hb)
                have HO716 := Aside0.mk (Kd.R_lower (Kd.R_new' ho0 (Kd.R_lt (rk_ HO_714000))) (below_size (pb_ HB)))
                replace HO_714000 := Aside0.mk (Kd.R_elder' (rk_ HO_714000) (Kd.R_base ho0) hb)
                replace BK700 := kb_ BK700 hb
                replace BK713 := kb_ BK713 hb
                replace BK728 := kb_ BK728 hb
                replace HB := sb_ HB hb
                (try clear hb)
                (try clear hb2)
                (try clear hk)
                (try clear hi)
                (try clear ho0)
                refine hK.out _ _ ⟨cy_ BK713 0, cy_ BK713 1, (pw_cell_below HB.out hw718_0), (pw_cell_below HB.out hw718_1), (pw_cell_below HB.out hw718_2), (pw_cell_below HB.out hw718_3), (pw_cell_below HB.out hw718_4)⟩ (fun hHeld => ?_)
                clear hK K
                refine nn_ 60 ?_
                exact norm_ pa_ (hJ1_6_12 (v715, v720, gb728) _ ⟨hHeld, (by (with_reducible repeat (first | apply Kd.R_alloc | apply Kd.R_drewN | apply Kd.R_drew)); exact Kd.R_mono HO716.out (fun _ hk => hk.2)), (rk_ HO721), (rk_ HO_5), (rk_ HO_6), (by (with_reducible repeat (first | apply Kd.R_alloc | apply Kd.R_drewN | apply Kd.R_drew)); exact Kd.R_mono HO_714000.out (fun _ hk => hk.2)), (pk_ BK700), (pk_ BK713), (pk_ BK728), GW728.out, GE728.out, NB700_728.out, NB728_700.out, NB713_728.out, NB728_713.out, (pb_ HB)⟩)
               skip
               clear HO_5 HO_6 HO_714000 BK700 BK713 HB
               rintro ⟨v715, gb728⟩ w119 ⟨hHeld, HO716, HO_5, HO_6, HO_714000, BK700, BK713, BK728, GW728, GE728, NB700_728, NB728_700, NB713_728, NB728_713, HB⟩
               try dsimp only at hHeld HO716 HO_5 HO_6 HO_714000 BK700 BK713 BK728 GW728 GE728 NB700_728 NB728_700 NB713_728 NB728_713 HB
               replace HO716 := Aside0.mk HO716
               replace HO_5 := Aside0.mk HO_5
               replace HO_6 := Aside0.mk HO_6
               replace HO_714000 := Aside0.mk HO_714000
               replace BK700 := Aside0.mk BK700
               replace BK713 := Aside0.mk BK713
               replace BK728 := Aside0.mk BK728
               replace GW728 := Aside0.mk GW728
               replace GE728 := Aside0.mk GE728
               replace NB700_728 := Aside0.mk NB700_728
               replace NB728_700 := Aside0.mk NB728_700
               replace NB713_728 := Aside0.mk NB713_728
               replace NB728_713 := Aside0.mk NB728_713
               replace HB := Aside0.mk HB
               refine nm_ ?_
               refine one_ (i := 6) (N := some 65) #[true, true, true, true, true, true, true, false, false, false, false, false, true, false, false, false] rfl rfl (one_of HT_.out (by kernel_rfl)) (by decide) (fun K hK => ?_)
               refine Kd.R_lit_step k66 _ 66 ?hg (N := 65) ?hd (xs := ([(⟨(rd_T66 l1 x9_3).f0, (rd_T66 l1 x9_3).f1, (rd_T66 l1 x9_3).f2, (rd_T66 l1 x9_3).f3, (rd_T66 l1 x9_3).f4⟩ : S66)] : List (S66))) (inner := [.int .i64 ((rd_T66 l1 x9_3).f0), .int .i64 ((rd_T66 l1 x9_3).f1), .int .i64 ((rd_T66 l1 x9_3).f2), .int .i64 ((rd_T66 l1 x9_3).f3), .string ((rd_T66 l1 x9_3).f4)]) (ok := fun _ => True) (okp := fun _ => True) ?hr ?hp (fun _ hk => hk) trivial (Below.refl _ _) (Nat.le_refl _) (by simp) ?_; (case hd => rfl); (case hg => rfl); (case hr => first | (go_simp; done) | (go_simp; rfl)); (case hp => exact (Reps.c5 (show Kd.M k66 _ _ _ (⟨(rd_T66 l1 x9_3).f0, (rd_T66 l1 x9_3).f1, (rd_T66 l1 x9_3).f2, (rd_T66 l1 x9_3).f3, (rd_T66 l1 x9_3).f4⟩ : S66) [.int .i64 ((rd_T66 l1 x9_3).f0), .int .i64 ((rd_T66 l1 x9_3).f1), .int .i64 ((rd_T66 l1 x9_3).f2), .int .i64 ((rd_T66 l1 x9_3).f3), .string ((rd_T66 l1 x9_3).f4)] from (k66_mkM _ _ _ (⟨(rd_T66 l1 x9_3).f0, (rd_T66 l1 x9_3).f1, (rd_T66 l1 x9_3).f2, (rd_T66 l1 x9_3).f3, (rd_T66 l1 x9_3).f4⟩ : S66) )) (Reps.none _ _)))
               intro v720 w120 ho121 hb hg_ hnew_
               clear hg_ hnew_
               (first | rw [← Ny719.out] at ho121 | (simp only [Int.reduceToNat] at ho121; rw [← Ny719.out] at ho121))
               replace HO_5 := Aside0.mk (Kd.R_below (rk_ HO_5) hb)
               replace HO_6 := Aside0.mk (Kd.R_below (rk_ HO_6) hb)
               replace HO_714000 := Aside0.mk (Kd.R_below (rk_ HO_714000) hb)
               replace HO716 := Aside0.mk (Kd.R_below (rk_ HO716) hb)
               have HO721 := Aside0.mk (Kd.R_lower ho121 (below_size (pb_ HB)))
               replace BK700 := kb_ BK700 hb
               replace BK713 := kb_ BK713 hb
               replace BK728 := kb_ BK728 hb
               replace HB := sb_ HB hb
               clear hb ho121
               refine hK.out _ _ ⟨cy_ BK713 0, cy_ BK713 1, (pw_cell_below HB.out hw718_0), (pw_cell_below HB.out hw718_1), (pw_cell_below HB.out hw718_2), (pw_cell_below HB.out hw718_3), (pw_cell_below HB.out hw718_4)⟩ (fun hHeld => ?_)
               clear hK K
               refine nn_ 65 ?_
               exact norm_ pa_ (hJ1_6_12 (v715, v720, gb728) _ ⟨hHeld, (rk_ HO716), (rk_ HO721), (rk_ HO_5), (rk_ HO_6), (rk_ HO_714000), (pk_ BK700), (pk_ BK713), (pk_ BK728), GW728.out, GE728.out, NB700_728.out, NB728_700.out, NB713_728.out, NB728_713.out, (pb_ HB)⟩)
              skip
              clear HO_5 HO_6 HO_714000 BK700 BK713 HB
              rintro ⟨v715, v720⟩ w120 ⟨hHeld, HO716, HO721, HO_5, HO_6, HO_714000, BK700, BK713, HB⟩
              try dsimp only at hHeld HO716 HO721 HO_5 HO_6 HO_714000 BK700 BK713 HB
              replace HO716 := Aside0.mk HO716
              replace HO721 := Aside0.mk HO721
              replace HO_5 := Aside0.mk HO_5
              replace HO_6 := Aside0.mk HO_6
              replace HO_714000 := Aside0.mk HO_714000
              replace BK700 := Aside0.mk BK700
              replace BK713 := Aside0.mk BK713
              replace HB := Aside0.mk HB
              obtain ⟨Ao121, co121, eo121⟩ := Kd.R_slice HO716.out
              (first | subst eo121 | (injection eo121 with f1_ f2_ f3_; have f4_ := f1_.symm; have f5_ := f3_.symm; clear f1_ f2_ f3_; subst f4_; subst f5_))
              obtain ⟨Ao122, co122, eo122⟩ := Kd.R_slice HO721.out
              (first | subst eo122 | (injection eo122 with f1_ f2_ f3_; have f4_ := f1_.symm; have f5_ := f3_.symm; clear f1_ f2_ f3_; subst f4_; subst f5_))
              refine nm_ ?_
              refine two_ (i := 7) (j := 12) (Ni := some 66) (Nj := some 10) #[true, true, true, true, true, true, true, true, false, false, false, false, false, false, false, false] #[true, true, true, true, true, true, true, false, false, false, false, false, true, false, false, false] rfl rfl rfl rfl (two_of HT_.out (by kernel_rfl)) (by decide) (by decide) (fun K hK => ?_) (fun K hK => ?_)
              ·
               refine goes_ Try.func32 (by kernel_rfl) rfl #[.agg #[.slice Ao121 t714.length co121, .int .i64 t717], .slice Ao122 y719.length co122] (by rfl) rfl rfl (by (try simp only [List.map_toArray, List.map_cons, List.map_nil]); first | done | rfl | (simp only [List.length_drop, List.length_take]; rfl)) ?_
               with_reducible refine (segment_Applied.calls k3 _ _ t714 t717 _ _ y719 t722 t725 t726 t727 _ ?side1 ?side2 ?side3 ?side4 A38.out).mono ?_
               (case side1 => exact pc_ (Kd.R_reads' HO716.out).2.2)
               (case side2 => exact (Kd.R_reads' HO716.out).2.1)
               (case side3 => exact pc_ (Kd.R_reads' HO721.out).2.2)
               (case side4 => exact (Kd.R_reads' HO721.out).2.1)
               rintro e w123 ⟨v723, rfl, ho0, hb⟩
               refine ⟨_, rfl, ?_⟩
               replace HO_5 := Aside0.mk (Kd.R_below (rk_ HO_5) hb)
               replace HO_6 := Aside0.mk (Kd.R_below (rk_ HO_6) hb)
               replace HO721 := Aside0.mk (Kd.R_below (rk_ HO721) hb)
               have HO724 := Aside0.mk (Kd.R_lower (Kd.R_new' (Kd.R_new' ho0 (Kd.R_lt (rk_ HO_714000))) (Kd.R_lt (rk_ HO716))) (below_size (pb_ HB)))
               replace HO_714000 := Aside0.mk (Kd.R_elder' (rk_ HO_714000) (Kd.R_base ho0) hb)
               replace HO716 := Aside0.mk (Kd.R_elder' (rk_ HO716) (Kd.R_base ho0) hb)
               replace BK700 := kb_ BK700 hb
               replace BK713 := kb_ BK713 hb
               replace HB := sb_ HB hb
               (try clear hb)
               (try clear hb2)
               (try clear hk)
               (try clear hi)
               (try clear ho0)
               refine hK.out _ _ ⟨cy_ BK713 0, cy_ BK713 1, (pw_cell_below HB.out hw718_0), (pw_cell_below HB.out hw718_1), (pw_cell_below HB.out hw718_2), (pw_cell_below HB.out hw718_3), (pw_cell_below HB.out hw718_4)⟩ (fun hHeld => ?_)
               clear hK K
               refine nn_ 66 ?_
               refine pu_ 8 58 HT_ ?_
               refine pu_ 9 67 HT_ ?_
               refine pu_ 10 68 HT_ ?_
               refine pu_ 11 69 HT_ ?_
               exact norm_ pa_ (hJ1_6_7 (.slice Ao121 t714.length co121, .slice Ao122 y719.length co122, v723) _ ⟨hHeld, (by (with_reducible repeat (first | apply Kd.R_alloc | apply Kd.R_drewN | apply Kd.R_drew)); exact Kd.R_mono HO716.out (fun _ hk => ⟨hk.2, hk.1⟩)), (rk_ HO721), (by (with_reducible repeat (first | apply Kd.R_alloc | apply Kd.R_drewN | apply Kd.R_drew)); exact Kd.R_mono HO724.out (fun _ hk => ⟨hk.2, hk.1.2⟩)), (rk_ HO_5), (rk_ HO_6), (rk_ HO_714000), (pk_ BK700), (pk_ BK713), (pb_ HB)⟩)
              skip
              refine box_step ?hg (N := 10) ?hd (cs := #[.slice none 0 0, .int .i64 0]) (t := 24) ?hr ?_; (case hd => rfl); (case hg => rfl); (case hr => first | (go_simp; done) | (go_simp; rfl))
              intro gb728 hg w121 hbox hb
              replace HO_5 := Aside0.mk (Kd.R_below (rk_ HO_5) hb)
              replace HO_6 := Aside0.mk (Kd.R_below (rk_ HO_6) hb)
              replace HO_714000 := Aside0.mk (Kd.R_below (rk_ HO_714000) hb)
              replace HO716 := Aside0.mk (Kd.R_below (rk_ HO716) hb)
              replace HO721 := Aside0.mk (Kd.R_below (rk_ HO721) hb)
              have BK728 := Aside0.mk (hbox)
              have GW728 := gw_ hg HB
              have GE728 := gw_ hg HB
              replace HB := sb_ HB hb
              have NB700_728 := nl_ hg BK700
              have NB728_700 := ng_ hg BK700
              replace BK700 := kb_ BK700 hb
              have NB713_728 := nl_ hg BK713
              have NB728_713 := ng_ hg BK713
              replace BK713 := kb_ BK713 hb
              clear hb hbox hg
              refine hK.out _ _ ⟨cy_ BK713 0, cy_ BK713 1, (pw_cell_below HB.out hw718_0), (pw_cell_below HB.out hw718_1), (pw_cell_below HB.out hw718_2), (pw_cell_below HB.out hw718_3), (pw_cell_below HB.out hw718_4)⟩ (fun hHeld => ?_)
              clear hK K
              refine nn_ 10 ?_
              exact norm_ pa_ (hJ1_6_12 (.slice Ao121 t714.length co121, .slice Ao122 y719.length co122, gb728) _ ⟨hHeld, (rk_ HO716), (rk_ HO721), (rk_ HO_5), (rk_ HO_6), (rk_ HO_714000), (pk_ BK700), (pk_ BK713), (pk_ BK728), GW728.out, GE728.out, NB700_728.out, NB728_700.out, NB713_728.out, NB728_713.out, (pb_ HB)⟩)
             skip
             clear HO_5 HO_6 HO_714000 BK700 BK713 HB
             rintro ⟨v715, v720, gb728⟩ w121 ⟨hHeld, HO716, HO721, HO_5, HO_6, HO_714000, BK700, BK713, BK728, GW728, GE728, NB700_728, NB728_700, NB713_728, NB728_713, HB⟩
             try dsimp only at hHeld HO716 HO721 HO_5 HO_6 HO_714000 BK700 BK713 BK728 GW728 GE728 NB700_728 NB728_700 NB713_728 NB728_713 HB
             replace HO716 := Aside0.mk HO716
             replace HO721 := Aside0.mk HO721
             replace HO_5 := Aside0.mk HO_5
             replace HO_6 := Aside0.mk HO_6
             replace HO_714000 := Aside0.mk HO_714000
             replace BK700 := Aside0.mk BK700
             replace BK713 := Aside0.mk BK713
             replace BK728 := Aside0.mk BK728
             replace GW728 := Aside0.mk GW728
             replace GE728 := Aside0.mk GE728
             replace NB700_728 := Aside0.mk NB700_728
             replace NB728_700 := Aside0.mk NB728_700
             replace NB713_728 := Aside0.mk NB713_728
             replace NB728_713 := Aside0.mk NB728_713
             replace HB := Aside0.mk HB
             obtain ⟨Ao122, co122, eo122⟩ := Kd.R_slice HO716.out
             (first | subst eo122 | (injection eo122 with f1_ f2_ f3_; have f4_ := f1_.symm; have f5_ := f3_.symm; clear f1_ f2_ f3_; subst f4_; subst f5_))
             obtain ⟨Ao123, co123, eo123⟩ := Kd.R_slice HO721.out
             (first | subst eo123 | (injection eo123 with f1_ f2_ f3_; have f4_ := f1_.symm; have f5_ := f3_.symm; clear f1_ f2_ f3_; subst f4_; subst f5_))
             refine nm_ ?_
             refine one_ (i := 7) (N := some 66) #[true, true, true, true, true, true, true, true, false, false, false, false, true, false, false, false] rfl rfl (one_of HT_.out (by kernel_rfl)) (by decide) (fun K hK => ?_)
             refine goes_ Try.func32 (by kernel_rfl) rfl #[.agg #[.slice Ao122 t714.length co122, .int .i64 t717], .slice Ao123 y719.length co123] (by rfl) rfl rfl (by (try simp only [List.map_toArray, List.map_cons, List.map_nil]); first | done | rfl | (simp only [List.length_drop, List.length_take]; rfl)) ?_
             with_reducible refine (segment_Applied.calls k3 _ _ t714 t717 _ _ y719 t722 t725 t726 t727 _ ?side1 ?side2 ?side3 ?side4 A38.out).mono ?_
             (case side1 => exact pc_ (Kd.R_reads' HO716.out).2.2)
             (case side2 => exact (Kd.R_reads' HO716.out).2.1)
             (case side3 => exact pc_ (Kd.R_reads' HO721.out).2.2)
             (case side4 => exact (Kd.R_reads' HO721.out).2.1)
             rintro e w124 ⟨v723, rfl, ho0, hb⟩
             refine ⟨_, rfl, ?_⟩
             replace HO_5 := Aside0.mk (Kd.R_below (rk_ HO_5) hb)
             replace HO_6 := Aside0.mk (Kd.R_below (rk_ HO_6) hb)
             replace HO721 := Aside0.mk (Kd.R_below (rk_ HO721) hb)
             have HO724 := Aside0.mk (Kd.R_lower (Kd.R_new' (Kd.R_new' ho0 (Kd.R_lt (rk_ HO_714000))) (Kd.R_lt (rk_ HO716))) (below_size (pb_ HB)))
             replace HO_714000 := Aside0.mk (Kd.R_elder' (rk_ HO_714000) (Kd.R_base ho0) hb)
             replace HO716 := Aside0.mk (Kd.R_elder' (rk_ HO716) (Kd.R_base ho0) hb)
             replace BK700 := kb_ BK700 hb
             replace BK713 := kb_ BK713 hb
             replace BK728 := kb_ BK728 hb
             replace HB := sb_ HB hb
             (try clear hb)
             (try clear hb2)
             (try clear hk)
             (try clear hi)
             (try clear ho0)
             refine hK.out _ _ ⟨cy_ BK713 0, cy_ BK713 1, (pw_cell_below HB.out hw718_0), (pw_cell_below HB.out hw718_1), (pw_cell_below HB.out hw718_2), (pw_cell_below HB.out hw718_3), (pw_cell_below HB.out hw718_4)⟩ (fun hHeld => ?_)
             clear hK K
             refine nn_ 66 ?_
             refine pu_ 8 58 HT_ ?_
             refine pu_ 9 67 HT_ ?_
             refine pu_ 10 68 HT_ ?_
             refine pu_ 11 69 HT_ ?_
             exact norm_ pa_ (hJ1_6_7_12 (.slice Ao122 t714.length co122, .slice Ao123 y719.length co123, v723, gb728) _ ⟨hHeld, (by (with_reducible repeat (first | apply Kd.R_alloc | apply Kd.R_drewN | apply Kd.R_drew)); exact Kd.R_mono HO716.out (fun _ hk => ⟨hk.2, hk.1⟩)), (rk_ HO721), (by (with_reducible repeat (first | apply Kd.R_alloc | apply Kd.R_drewN | apply Kd.R_drew)); exact Kd.R_mono HO724.out (fun _ hk => ⟨hk.2, hk.1.2⟩)), (rk_ HO_5), (rk_ HO_6), (rk_ HO_714000), (pk_ BK700), (pk_ BK713), (pk_ BK728), GW728.out, GE728.out, NB700_728.out, NB728_700.out, NB713_728.out, NB728_713.out, (pb_ HB)⟩)
            skip
            clear HO_5 HO_6 HO_714000 BK700 BK713 HB
            rintro ⟨v715, v720, v723⟩ w123 ⟨hHeld, HO716, HO721, HO724, HO_5, HO_6, HO_714000, BK700, BK713, HB⟩
            try dsimp only at hHeld HO716 HO721 HO724 HO_5 HO_6 HO_714000 BK700 BK713 HB
            replace HO716 := Aside0.mk HO716
            replace HO721 := Aside0.mk HO721
            replace HO724 := Aside0.mk HO724
            replace HO_5 := Aside0.mk HO_5
            replace HO_6 := Aside0.mk HO_6
            replace HO_714000 := Aside0.mk HO_714000
            replace BK700 := Aside0.mk BK700
            replace BK713 := Aside0.mk BK713
            replace HB := Aside0.mk HB
            refine nm_ ?_
            refine one_ (i := 12) (N := some 10) #[true, true, true, true, true, true, true, true, true, true, true, true, true, false, false, false] rfl rfl (one_of HT_.out (by kernel_rfl)) (by decide) (fun K hK => ?_)
            refine box_step ?hg (N := 10) ?hd (cs := #[.slice none 0 0, .int .i64 0]) (t := 24) ?hr ?_; (case hd => rfl); (case hg => rfl); (case hr => first | (go_simp; done) | (go_simp; rfl))
            intro gb728 hg w124 hbox hb
            replace HO_5 := Aside0.mk (Kd.R_below (rk_ HO_5) hb)
            replace HO_6 := Aside0.mk (Kd.R_below (rk_ HO_6) hb)
            replace HO_714000 := Aside0.mk (Kd.R_below (rk_ HO_714000) hb)
            replace HO716 := Aside0.mk (Kd.R_below (rk_ HO716) hb)
            replace HO721 := Aside0.mk (Kd.R_below (rk_ HO721) hb)
            replace HO724 := Aside0.mk (Kd.R_below (rk_ HO724) hb)
            have BK728 := Aside0.mk (hbox)
            have GW728 := gw_ hg HB
            have GE728 := gw_ hg HB
            replace HB := sb_ HB hb
            have NB700_728 := nl_ hg BK700
            have NB728_700 := ng_ hg BK700
            replace BK700 := kb_ BK700 hb
            have NB713_728 := nl_ hg BK713
            have NB728_713 := ng_ hg BK713
            replace BK713 := kb_ BK713 hb
            clear hb hbox hg
            refine hK.out _ _ ⟨cy_ BK713 0, cy_ BK713 1, (pw_cell_below HB.out hw718_0), (pw_cell_below HB.out hw718_1), (pw_cell_below HB.out hw718_2), (pw_cell_below HB.out hw718_3), (pw_cell_below HB.out hw718_4)⟩ (fun hHeld => ?_)
            clear hK K
            refine nn_ 10 ?_
            exact norm_ pa_ (hJ1_6_7_12 (v715, v720, v723, gb728) _ ⟨hHeld, (rk_ HO716), (rk_ HO721), (rk_ HO724), (rk_ HO_5), (rk_ HO_6), (rk_ HO_714000), (pk_ BK700), (pk_ BK713), (pk_ BK728), GW728.out, GE728.out, NB700_728.out, NB728_700.out, NB713_728.out, NB728_713.out, (pb_ HB)⟩)
           clear HO_5 HO_6 HO_714000 BK700 BK713 HB
           rintro ⟨v715, v720, v723, gb728⟩ w124 ⟨hHeld, HO716, HO721, HO724, HO_5, HO_6, HO_714000, BK700, BK713, BK728, GW728, GE728, NB700_728, NB728_700, NB713_728, NB728_713, HB⟩
           try dsimp only at hHeld HO716 HO721 HO724 HO_5 HO_6 HO_714000 BK700 BK713 BK728 GW728 GE728 NB700_728 NB728_700 NB713_728 NB728_713 HB
           replace HO716 := Aside0.mk HO716
           replace HO721 := Aside0.mk HO721
           replace HO724 := Aside0.mk HO724
           replace HO_5 := Aside0.mk HO_5
           replace HO_6 := Aside0.mk HO_6
           replace HO_714000 := Aside0.mk HO_714000
           replace BK700 := Aside0.mk BK700
           replace BK713 := Aside0.mk BK713
           replace BK728 := Aside0.mk BK728
           replace GW728 := Aside0.mk GW728
           replace GE728 := Aside0.mk GE728
           replace NB700_728 := Aside0.mk NB700_728
           replace NB728_700 := Aside0.mk NB728_700
           replace NB713_728 := Aside0.mk NB713_728
           replace NB728_713 := Aside0.mk NB728_713
           replace HB := Aside0.mk HB
           obtain ⟨Ao125, co125, eo125⟩ := Kd.R_slice HO724.out
           (first | subst eo125 | (injection eo125 with f1_ f2_ f3_; have f4_ := f1_.symm; have f5_ := f3_.symm; clear f1_ f2_ f3_; subst f4_; subst f5_))
           refine nm_ ?_
           refine one_ (i := 13) (N := none) #[true, true, true, true, true, true, true, true, true, true, true, true, true, true, false, false] rfl rfl (one_of HT_.out (by kernel_rfl)) (by decide) (fun K hK => ?_)
           have hs126 : w124.cell? ⟨gb728, 0, none⟩ = some (.slice none 0 0) := (blk_cell BK728.out 0).trans rfl
           have hfs126 := blk_frozen BK728.out 0
           have hns126_0 := NB700_728.out
           have hns126_1 := NB713_728.out
           have hms126_0 := NB728_700.out
           have hms126_1 := NB728_713.out
           have hs127 : w124.cell? ⟨gb728, 1, none⟩ = some (.int .i64 0) := (blk_cell BK728.out 1).trans rfl
           have hfs127 := blk_frozen BK728.out 1
           have hns127_0 := NB700_728.out
           have hns127_1 := NB713_728.out
           have hms127_0 := NB728_700.out
           have hms127_1 := NB728_713.out
           refine skip_ (w1 := ?_) (by rfl) rfl ?_ ?_
           rotate_left
           ·
            go_simp
            rfl
           refine hK.out _ _ ⟨((cell_far (p := ⟨gb728, _, none⟩) NB713_728.out _).trans (((cell_far (p := ⟨gb728, _, none⟩) NB713_728.out _).trans (hHeld.1)))), ((cell_far (p := ⟨gb728, _, none⟩) NB713_728.out _).trans (((cell_far (p := ⟨gb728, _, none⟩) NB713_728.out _).trans (hHeld.2.1)))), ((cell_far (p := ⟨gb728, _, none⟩) (nf_ hw718_0 GW728) _).trans (((cell_far (p := ⟨gb728, _, none⟩) (nf_ hw718_0 GW728) _).trans (hHeld.2.2.1)))), ((cell_far (p := ⟨gb728, _, none⟩) (nf_ hw718_1 GW728) _).trans (((cell_far (p := ⟨gb728, _, none⟩) (nf_ hw718_1 GW728) _).trans (hHeld.2.2.2.1)))), ((cell_far (p := ⟨gb728, _, none⟩) (nf_ hw718_2 GW728) _).trans (((cell_far (p := ⟨gb728, _, none⟩) (nf_ hw718_2 GW728) _).trans (hHeld.2.2.2.2.1)))), ((cell_far (p := ⟨gb728, _, none⟩) (nf_ hw718_3 GW728) _).trans (((cell_far (p := ⟨gb728, _, none⟩) (nf_ hw718_3 GW728) _).trans (hHeld.2.2.2.2.2.1)))), ((cell_far (p := ⟨gb728, _, none⟩) (nf_ hw718_4 GW728) _).trans (((cell_far (p := ⟨gb728, _, none⟩) (nf_ hw718_4 GW728) _).trans (hHeld.2.2.2.2.2.2))))⟩ (fun hHeld => ?_)
           clear hK K
           refine pu_ 14 11 HT_ ?_
           refine pu_ 15 12 HT_ ?_
           refine done_ (done_of HT_.out (by kernel_rfl)) ?_
           try go_wp2
           go_meet
           case rel => exact ⟨_, (x5_3), (x714000_3), (x714001_3), (.slice Ao115 x714000_3.length co115), H', ⟨by have := HJ4.out; have := HK2.out; have := HK3.out; first | omega | exact Nat.le_refl _⟩, ⟨by (with_reducible repeat (first | apply Kd.R_alloc | apply Kd.R_drewN | apply Kd.R_drew)); exact Kd.R_mono (Kd.R_far (p := ⟨gb728, 1, none⟩) (Kd.R_far (p := ⟨gb728, 0, none⟩) (Kd.R_types HO_5.out BK728.out (by decide)) (fun _ hk => hk.2) (.slice Ao125 t722.length co125)) (fun _ hk => hk.2) (.int .i64 t725)) (fun _ hk => trivial)⟩, ⟨by (with_reducible repeat (first | apply Kd.R_alloc | apply Kd.R_drewN | apply Kd.R_drew)); exact Kd.R_mono (Kd.R_far (p := ⟨gb728, 1, none⟩) (Kd.R_far (p := ⟨gb728, 0, none⟩) (Kd.R_types HO_714000.out BK728.out (by decide)) (fun _ hk => hk.2) (.slice Ao125 t722.length co125)) (fun _ hk => hk.2) (.int .i64 t725)) (fun _ hk => trivial)⟩, ⟨by (with_reducible repeat (first | refine blk_drewN ?_ _ | refine blk_drew ?_ | refine blk_alloc ?_ _)); refine blk_far ?_ NB700_728.out _; (with_reducible repeat (first | refine blk_drewN ?_ _ | refine blk_drew ?_ | refine blk_alloc ?_ _)); refine blk_far ?_ NB700_728.out _; (with_reducible repeat (first | refine blk_drewN ?_ _ | refine blk_drew ?_ | refine blk_alloc ?_ _)); exact BK700.out⟩, ⟨by (with_reducible repeat (first | refine blk_drewN ?_ _ | refine blk_drew ?_ | refine blk_alloc ?_ _)); refine blk_far ?_ NB713_728.out _; (with_reducible repeat (first | refine blk_drewN ?_ _ | refine blk_drew ?_ | refine blk_alloc ?_ _)); refine blk_far ?_ NB713_728.out _; (with_reducible repeat (first | refine blk_drewN ?_ _ | refine blk_drew ?_ | refine blk_alloc ?_ _)); exact BK713.out⟩, ⟨pb_ HB⟩⟩
          rw [if_neg c37] at H
          exact absurd H (by simp)
         rw [if_neg c35] at H
         have c35b0 : decide (x9_3 < (l1.length : Int)) = false := decide_eq_false c35
         clear c35
         (first | rw [c35b0] | (simp only [i64_w, i32_w]; rw [c35b0]) | skip)
         have H' := Aside0.mk H
         clear H
         go_wp2
         go_meet
         case rel => exact ⟨_, (x5_3), (x714000_3), (x714001_3), (u714000), H', ⟨by have := HJ4.out; have := HK2.out; have := HK3.out; first | omega | exact Nat.le_refl _⟩, ⟨by (with_reducible repeat (first | apply Kd.R_alloc | apply Kd.R_drewN | apply Kd.R_drew)); exact Kd.R_mono HO_5.out (fun _ hk => trivial)⟩, ⟨by (with_reducible repeat (first | apply Kd.R_alloc | apply Kd.R_drewN | apply Kd.R_drew)); exact HO_714000.out⟩, ⟨pk_ BK700⟩, ⟨pk_ BK713⟩, ⟨pb_ HB⟩⟩
      case rest =>
       clear HC28
       try clear p2
       try clear c3
       try clear c5
       try clear c32
       try clear c35
       try clear c35b0
       try clear c37
       obtain ⟨kq, x5_27, x714000_27, x714001_27, u714000, HA, HJ27, HO_5, HO_714000, BK700, BK713, HB⟩ := hcut
       cases kq with
       | zero => exact absurd HA.out (by simp [midrangelaw04_SegmentNumbers.j5])
       | succ kj27 =>
        have H := HA.out
        clear HA
        simp only [midrangelaw04_SegmentNumbers.j5] at H
        have H' := Aside0.mk H
        clear H
        go_wp2
        go_loopg [16] kj27 (fun kq v16 w' => ∃ (x16_4 : Int), v16 = .int .i64 x16_4 ∧ Aside0 (midrangelaw04_SegmentNumbers.l2 kq x5_27 x16_4 x714000_27 x714001_27 = some r) ∧ Aside0 (kq ≤ kj27) ∧ Aside0 (Kd.R (Kd.int .i64) 3 w' w.heap.size (fun _ => True) u5 x5_27) ∧ Aside0 (Kd.R k56 56 w' w.heap.size (fun _ => True) u714000 x714000_27) ∧ Aside0 (w'.heap[gb700]? = some (.cells #[(.slice A0_0 l0_0.length c0_0), .int .i64 a0_1] 24 (0, 0))) ∧ Aside0 (w'.heap[gb713]? = some (.cells #[u714000, .int .i64 x714001_27] 24 (0, 0))) ∧ Aside0 (Below w.heap.size w w'))
        case atStart => exact ⟨(0), rl_, H', ⟨Nat.le_refl _⟩, ⟨by (with_reducible repeat (first | apply Kd.R_alloc | apply Kd.R_drewN | apply Kd.R_drew)); exact HO_5.out⟩, ⟨by (with_reducible repeat (first | apply Kd.R_alloc | apply Kd.R_drewN | apply Kd.R_drew)); exact HO_714000.out⟩, ⟨pk_ BK700⟩, ⟨pk_ BK713⟩, ⟨pb_ HB⟩⟩
        case round =>
         clear H'
         try clear p2
         try clear c3
         try clear c5
         try clear c32
         try clear c35
         try clear c35b0
         try clear c37
         try clear p2
         obtain ⟨x16_4, rfl, HA, HK4, HO_5, HO_714000, BK700, BK713, HB⟩ := hrel
         cases gk with
         | zero => exact absurd HA.out (by simp [midrangelaw04_SegmentNumbers.l2])
         | succ k4 =>
          have H := HA.out
          clear HA
          simp only [midrangelaw04_SegmentNumbers.l2] at H
          by_cases c128 : x16_4 < (x5_27.length : Int)
          ·
           rw [if_pos c128] at H
           have c128b0 : decide (x16_4 < (x5_27.length : Int)) = true := decide_eq_true c128
           clear c128
           replace H := Option.bind_eq_some_iff.mp H
           obtain ⟨⟨t757, t760⟩, A1290, H⟩ := H
           replace H : (if 0 ≤ x16_4 then ((segment_ReadAt.f k4 t757 t760 (rd x5_27 x16_4) 0 0).bind fun bt762 => (if bt762.2 = 24 then (midrangelaw04_SegmentNumbers.l2 k4 x5_27 (wrap64 (x16_4 + 1)) x714000_27 x714001_27) else (some false))) else (none)) = some r := H
           have A129 := Aside0.mk A1290
           clear A1290
           by_cases c130 : 0 ≤ x16_4
           ·
            rw [if_pos c130] at H
            have c130b0 : decide (0 ≤ x16_4) = true := decide_eq_true c130
            clear c130
            replace H := Option.bind_eq_some_iff.mp H
            obtain ⟨⟨t762, t763⟩, A1310, H⟩ := H
            replace H : (if t763 = 24 then (midrangelaw04_SegmentNumbers.l2 k4 x5_27 (wrap64 (x16_4 + 1)) x714000_27 x714001_27) else (some false)) = some r := H
            have A131 := Aside0.mk A1310
            clear A1310
            by_cases c132 : t763 = 24
            ·
             rw [if_pos c132] at H
             have c132b0 : (t763 == 24) = true := beq_iff_eq.mpr c132
             have c132b1 : (t763 != 24) = false := bne_eq_false_iff_eq.mpr c132
             clear c132
             have H' := Aside0.mk H
             clear H
             obtain ⟨Ao133, co133, eo133⟩ := Kd.R_slice HO_5.out
             subst eo133
             try go_wp2
             replace HO_5 := rd_ HO_5
             replace HO_714000 := rd_ HO_714000
             replace BK700 := Aside0.mk (blk_drew BK700.out)
             replace BK713 := Aside0.mk (blk_drew BK713.out)
             replace HB := Aside0.mk (below_drew1 HB.out)
             have p761 : 0 ≤ (x16_4 : Int) := ct_
             have q761 : x16_4 < (x5_27.length : Int) := ct_
             obtain ⟨ad761, e761, hx761_0⟩ := Kd.at_int (Kd.R_reads' HO_5.out).2.2 x16_4 p761 q761
             cases e761
             replace p761 := eq_true p761
             replace q761 := eq_true q761
             obtain ⟨Ao135, co135, eo135⟩ := Kd.R_slice HO_714000.out
             (first | subst eo135 | (injection eo135 with f1_ f2_ f3_; have f4_ := f1_.symm; have f5_ := f3_.symm; clear f1_ f2_ f3_; subst f4_; subst f5_))
             refine start_ (n := 13) (S := fun w' => w'.cell? ⟨gb713, 0, none⟩ = some (.slice Ao135 x714000_27.length co135) ∧ w'.cell? ⟨gb713, 1, none⟩ = some (.int .i64 x714001_27) ∧ w'.cell? (ad761.add (x16_4).toNat) = some (.int .i64 (rd x5_27 x16_4))) (ds := []) #[false, false, false, false, false, false, false, false, false, false, false, false, false] (by kernel_rfl) rfl rfl ⟨cy_ BK713 0, cy_ BK713 1, hx761_0⟩ (fun hHeld => ?_); refine with_tabW midrangelaw04_SegmentNumbers.tab29 midrangelaw04_SegmentNumbers.bits29 (fun HT_ HW_ => ?_)
             generalize wr.drew = w134 at HO_5 HO_714000 BK700 BK713 HB hx761_0 hHeld ⊢
             refine pu_ 2 133 HT_ ?_
             refine pu_ 3 134 HT_ ?_
             refine pu_ 4 135 HT_ ?_
             refine tk_ 0 131 HT_ HW_ hHeld rfl (Or.inl ⟨by rfl, by rintro w' ⟨s0, s1, s2⟩; go_simp; with_reducible rfl⟩) ?_
             refine tk_ 5 136 HT_ HW_ hHeld rfl (Or.inl ⟨by rfl, by rintro w' ⟨s0, s1, s2⟩; go_simp; with_reducible rfl⟩) ?_
             refine pu_ 6 137 HT_ ?_
             refine one_ (i := 1) (N := some 132) #[true, true, true, true, true, true, true, false, false, false, false, false, false] rfl rfl (one_of HT_.out (by kernel_rfl)) (by decide) (fun K hK => ?_)
             refine goes_ Try.func13 (by kernel_rfl) rfl #[.agg #[.slice Ao135 x714000_27.length co135, .int .i64 x714001_27]] (by rfl) rfl rfl (by (try simp only [List.map_toArray, List.map_cons, List.map_nil]); first | done | rfl | (simp only [List.length_drop, List.length_take]; rfl)) ?_
             with_reducible refine (midrangeref04_Own.calls _ _ x714000_27 x714001_27 t757 t760 _ ?side1 ?side2 A129.out).mono ?_
             (case side1 => exact pc_ (Kd.R_reads' HO_714000.out).2.2)
             (case side2 => exact (Kd.R_reads' HO_714000.out).2.1)
             rintro e w136 ⟨v758, rfl, ho0, hb⟩
             have HS2_ := (hb.cell (World.block_lt_of_cell? _ _ (hHeld.2.2))).trans (hHeld.2.2)
             refine ⟨_, rfl, ?_⟩
             replace HO_5 := Aside0.mk (Kd.R_below (rk_ HO_5) hb)
             have HO759 := Aside0.mk (Kd.R_lower (Kd.R_new' ho0 (Kd.R_lt (rk_ HO_714000))) (below_size (pb_ HB)))
             replace HO_714000 := Aside0.mk (Kd.R_elder' (rk_ HO_714000) (Kd.R_base ho0) hb)
             replace BK700 := kb_ BK700 hb
             replace BK713 := kb_ BK713 hb
             replace HB := sb_ HB hb
             (try clear hb)
             (try clear hb2)
             (try clear hk)
             (try clear hi)
             (try clear ho0)
             obtain ⟨Ao137, co137, eo137⟩ := Kd.R_slice HO759.out
             (first | subst eo137 | (injection eo137 with f1_ f2_ f3_; have f4_ := f1_.symm; have f5_ := f3_.symm; clear f1_ f2_ f3_; subst f4_; subst f5_))
             refine hK.out _ _ ⟨cy_ BK713 0, cy_ BK713 1, HS2_⟩ (fun hHeld => ?_)
             clear hK K
             refine nn_ 132 ?_
             refine one_ (i := 7) (N := some 138) #[true, true, true, true, true, true, true, true, false, false, false, false, false] rfl rfl (one_of HT_.out (by kernel_rfl)) (by decide) (fun K hK => ?_)
             refine goes_ Try.func26 (by kernel_rfl) rfl #[.agg #[.slice Ao137 t757.length co137, .int .i64 t760], .agg #[.int .i64 (rd x5_27 x16_4), .int .i64 0], .int .i64 0] (by rfl) rfl rfl (by (try simp only [List.map_toArray, List.map_cons, List.map_nil]); first | done | rfl | (simp only [List.length_drop, List.length_take]; rfl)) ?_
             with_reducible refine (segment_ReadAt.calls k4 _ _ t757 t760 (rd x5_27 x16_4) 0 0 t762 t763 _ ?side1 ?side2 A131.out).mono ?_
             (case side1 => exact pc_ (Kd.R_reads' HO759.out).2.2)
             (case side2 => exact (Kd.R_reads' HO759.out).2.1)
             rintro e w138 ⟨rfl, hb⟩
             have HS2_ := (hb.cell (World.block_lt_of_cell? _ _ (hHeld.2.2))).trans (hHeld.2.2)
             refine ⟨_, rfl, ?_⟩
             replace HO_5 := Aside0.mk (Kd.R_below (rk_ HO_5) hb)
             replace HO_714000 := Aside0.mk (Kd.R_below (rk_ HO_714000) hb)
             replace HO759 := Aside0.mk (Kd.R_below (rk_ HO759) hb)
             replace BK700 := kb_ BK700 hb
             replace BK713 := kb_ BK713 hb
             replace HB := sb_ HB hb
             (try clear hb)
             (try clear hb2)
             (try clear hk)
             (try clear hi)
             refine hK.out _ _ ⟨cy_ BK713 0, cy_ BK713 1, HS2_⟩ (fun hHeld => ?_)
             clear hK K
             refine nn_ 138 ?_
             refine pu_ 8 130 HT_ ?_
             refine pu_ 9 139 HT_ ?_
             refine pu_ 10 140 HT_ ?_
             refine pu_ 11 17 HT_ ?_
             refine pu_ 12 18 HT_ ?_
             refine done_ (done_of HT_.out (by kernel_rfl)) ?_
             try go_wp2
             go_roundg k4
             case measure => have := HJ4.out; have := HK2.out; have := HJ27.out; have := HK4.out; omega
             case rel => exact ⟨(wrap64 (x16_4 + 1)), rl_, H', ⟨by have := HJ4.out; have := HK2.out; have := HJ27.out; have := HK4.out; omega⟩, ⟨by (with_reducible repeat (first | apply Kd.R_alloc | apply Kd.R_drewN | apply Kd.R_drew)); exact HO_5.out⟩, ⟨by (with_reducible repeat (first | apply Kd.R_alloc | apply Kd.R_drewN | apply Kd.R_drew)); exact Kd.R_mono HO_714000.out (fun _ hk => trivial)⟩, ⟨pk_ BK700⟩, ⟨pk_ BK713⟩, ⟨pb_ HB⟩⟩
            rw [if_neg c132] at H
            have c132b0 : (t763 == 24) = false := beq_eq_false_iff_ne.mpr c132
            have c132b1 : (t763 != 24) = true := bne_iff_ne.mpr c132
            obtain rfl := Option.some.inj H
            obtain ⟨Ao139, co139, eo139⟩ := Kd.R_slice HO_5.out
            subst eo139
            try go_wp2
            replace HO_5 := rd_ HO_5
            replace HO_714000 := rd_ HO_714000
            replace BK700 := Aside0.mk (blk_drew BK700.out)
            replace BK713 := Aside0.mk (blk_drew BK713.out)
            replace HB := Aside0.mk (below_drew1 HB.out)
            have p761 : 0 ≤ (x16_4 : Int) := ct_
            have q761 : x16_4 < (x5_27.length : Int) := ct_
            obtain ⟨ad761, e761, hx761_0⟩ := Kd.at_int (Kd.R_reads' HO_5.out).2.2 x16_4 p761 q761
            cases e761
            replace p761 := eq_true p761
            replace q761 := eq_true q761
            obtain ⟨Ao141, co141, eo141⟩ := Kd.R_slice HO_714000.out
            (first | subst eo141 | (injection eo141 with f1_ f2_ f3_; have f4_ := f1_.symm; have f5_ := f3_.symm; clear f1_ f2_ f3_; subst f4_; subst f5_))
            refine start_ (n := 13) (S := fun w' => w'.cell? ⟨gb713, 0, none⟩ = some (.slice Ao141 x714000_27.length co141) ∧ w'.cell? ⟨gb713, 1, none⟩ = some (.int .i64 x714001_27) ∧ w'.cell? (ad761.add (x16_4).toNat) = some (.int .i64 (rd x5_27 x16_4))) (ds := []) #[false, false, false, false, false, false, false, false, false, false, false, false, false] (by kernel_rfl) rfl rfl ⟨cy_ BK713 0, cy_ BK713 1, hx761_0⟩ (fun hHeld => ?_); refine with_tabW midrangelaw04_SegmentNumbers.tab29 midrangelaw04_SegmentNumbers.bits29 (fun HT_ HW_ => ?_)
            generalize wr.drew = w140 at HO_5 HO_714000 BK700 BK713 HB hx761_0 hHeld ⊢
            refine pu_ 2 133 HT_ ?_
            refine pu_ 3 134 HT_ ?_
            refine pu_ 4 135 HT_ ?_
            refine tk_ 0 131 HT_ HW_ hHeld rfl (Or.inl ⟨by rfl, by rintro w' ⟨s0, s1, s2⟩; go_simp; with_reducible rfl⟩) ?_
            refine tk_ 5 136 HT_ HW_ hHeld rfl (Or.inl ⟨by rfl, by rintro w' ⟨s0, s1, s2⟩; go_simp; with_reducible rfl⟩) ?_
            refine pu_ 6 137 HT_ ?_
            refine one_ (i := 1) (N := some 132) #[true, true, true, true, true, true, true, false, false, false, false, false, false] rfl rfl (one_of HT_.out (by kernel_rfl)) (by decide) (fun K hK => ?_)
            refine goes_ Try.func13 (by kernel_rfl) rfl #[.agg #[.slice Ao141 x714000_27.length co141, .int .i64 x714001_27]] (by rfl) rfl rfl (by (try simp only [List.map_toArray, List.map_cons, List.map_nil]); first | done | rfl | (simp only [List.length_drop, List.length_take]; rfl)) ?_
            with_reducible refine (midrangeref04_Own.calls _ _ x714000_27 x714001_27 t757 t760 _ ?side1 ?side2 A129.out).mono ?_
            (case side1 => exact pc_ (Kd.R_reads' HO_714000.out).2.2)
            (case side2 => exact (Kd.R_reads' HO_714000.out).2.1)
            rintro e w142 ⟨v758, rfl, ho0, hb⟩
            have HS2_ := (hb.cell (World.block_lt_of_cell? _ _ (hHeld.2.2))).trans (hHeld.2.2)
            refine ⟨_, rfl, ?_⟩
            replace HO_5 := Aside0.mk (Kd.R_below (rk_ HO_5) hb)
            have HO759 := Aside0.mk (Kd.R_lower (Kd.R_new' ho0 (Kd.R_lt (rk_ HO_714000))) (below_size (pb_ HB)))
            replace HO_714000 := Aside0.mk (Kd.R_elder' (rk_ HO_714000) (Kd.R_base ho0) hb)
            replace BK700 := kb_ BK700 hb
            replace BK713 := kb_ BK713 hb
            replace HB := sb_ HB hb
            (try clear hb)
            (try clear hb2)
            (try clear hk)
            (try clear hi)
            (try clear ho0)
            obtain ⟨Ao143, co143, eo143⟩ := Kd.R_slice HO759.out
            (first | subst eo143 | (injection eo143 with f1_ f2_ f3_; have f4_ := f1_.symm; have f5_ := f3_.symm; clear f1_ f2_ f3_; subst f4_; subst f5_))
            refine hK.out _ _ ⟨cy_ BK713 0, cy_ BK713 1, HS2_⟩ (fun hHeld => ?_)
            clear hK K
            refine nn_ 132 ?_
            refine one_ (i := 7) (N := some 138) #[true, true, true, true, true, true, true, true, false, false, false, false, false] rfl rfl (one_of HT_.out (by kernel_rfl)) (by decide) (fun K hK => ?_)
            refine goes_ Try.func26 (by kernel_rfl) rfl #[.agg #[.slice Ao143 t757.length co143, .int .i64 t760], .agg #[.int .i64 (rd x5_27 x16_4), .int .i64 0], .int .i64 0] (by rfl) rfl rfl (by (try simp only [List.map_toArray, List.map_cons, List.map_nil]); first | done | rfl | (simp only [List.length_drop, List.length_take]; rfl)) ?_
            with_reducible refine (segment_ReadAt.calls k4 _ _ t757 t760 (rd x5_27 x16_4) 0 0 t762 t763 _ ?side1 ?side2 A131.out).mono ?_
            (case side1 => exact pc_ (Kd.R_reads' HO759.out).2.2)
            (case side2 => exact (Kd.R_reads' HO759.out).2.1)
            rintro e w144 ⟨rfl, hb⟩
            have HS2_ := (hb.cell (World.block_lt_of_cell? _ _ (hHeld.2.2))).trans (hHeld.2.2)
            refine ⟨_, rfl, ?_⟩
            replace HO_5 := Aside0.mk (Kd.R_below (rk_ HO_5) hb)
            replace HO_714000 := Aside0.mk (Kd.R_below (rk_ HO_714000) hb)
            replace HO759 := Aside0.mk (Kd.R_below (rk_ HO759) hb)
            replace BK700 := kb_ BK700 hb
            replace BK713 := kb_ BK713 hb
            replace HB := sb_ HB hb
            (try clear hb)
            (try clear hb2)
            (try clear hk)
            (try clear hi)
            refine hK.out _ _ ⟨cy_ BK713 0, cy_ BK713 1, HS2_⟩ (fun hHeld => ?_)
            clear hK K
            refine nn_ 138 ?_
            refine pu_ 8 130 HT_ ?_
            refine pu_ 9 139 HT_ ?_
            refine pu_ 10 140 HT_ ?_
            refine pu_ 11 17 HT_ ?_
            refine pu_ 12 18 HT_ ?_
            refine done_ (done_of HT_.out (by kernel_rfl)) ?_
            try go_wp2
            go_ret
            exact ⟨er_, pb_ HB⟩
           rw [if_neg c130] at H
           exact absurd H (by simp)
          rw [if_neg c128] at H
          have c128b0 : decide (x16_4 < (x5_27.length : Int)) = false := decide_eq_false c128
          clear c128
          obtain rfl := Option.some.inj H
          obtain ⟨Ao145, co145, eo145⟩ := Kd.R_slice HO_5.out
          subst eo145
          go_wp2
          go_ret
          exact ⟨er_, pb_ HB⟩
 replace c4 := Bool.eq_false_iff.mpr c4
 subst c4
 have H1 : (some false) = some r := by rw [if_neg (show ¬ (false = true) by decide)] at H; exact H
 clear H
 have H := H1
 clear H1
 obtain rfl := Option.some.inj H
 go_enter Try.func9, Try.ntmps9
 go_wp2_with (first | ((with_reducible refine gate_dst (N := 2) rfl ?_); refine bx_ 2 #[.slice A0_0 l0_0.length c0_0, .int .i64 a0_1] 24 ?_; intro gb700 hg w146 hbox hb; have BK700 := Aside0.mk (hbox); have GW700 := gw_ hg HB; have GE700 := gw_ hg HB; replace HB := sb_ HB hb; clear hb hbox hg) | ((with_reducible refine gate_callee (f := 10) rfl ?_); refine gl_ 19 Try.func10 #[] ?_; (with_reducible refine (midrangelaw04_awake.calls k  false _ A3.out).mono ?_); rintro e w147 ⟨rfl, hb⟩; refine ⟨_, rfl, ?_⟩; replace BK700 := kb_ BK700 hb; replace HB := sb_ HB hb; (try clear hb); (try clear hb2); (try clear hk); (try clear hi)))
 go_ret
 exact ⟨er_, pb_ HB⟩

/-- THE ONE PURE STATEMENT of midrangelaw04_SegmentNumbers. -/
def midrangelaw04_SegmentNumbers.Pure : Prop := ∀ (l0_0 : List (S56)) (a0_1 : Int) (l1 : List (S66)), (l0_0.length ≤ 9223372036854775807 ∧ ∀ y0 ∈ l0_0, ok56 y0) → (Lit.int .i64 a0_1).wf = true → (l1.length ≤ 9223372036854775807 ∧ ∀ y0 ∈ l1, ok66 y0) → ∃ k, midrangelaw04_SegmentNumbers.f k l0_0 a0_1 l1 = some true
end Go.Proofs.Ytoabahlaicgmjaa.X
end
