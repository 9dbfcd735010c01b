-- Texts of this claim joined by merge.py, a program of its author; what this claim does not reach is left out.
import Derived.Test.YtoabahlaicgmjaaDoorMSegmentUndoes11
section
namespace Go.Proofs.YtoabahlaicgmjaaDoor.X
open Go.Proofs.YtoabahlaicgmjaaDoor.XW Go.Proofs.YtoabahlaicgmjaaDoor.XS
open Go.RowKit Go.Proofs.YtoabahlaicgmjaaDoorW.PrintWords Go.Proofs.YtoabahlaicgmjaaDoorW.PrintLast Go.Proofs.YtoabahlaicgmjaaDoorW.PrintMore
attribute [local go_sem] max2_int min2_int max_two min_two max_three min_three max_four min_four   -- for this text's walks alone
set_option linter.unusedVariables false
set_option linter.unusedSimpArgs false
def midrangeref04_Undo.j0 : Nat → Bool → List (S46) → Int → Int → Int → Int → Int → ByteArray → Option ((List (S26)) × Int)
  | 0, _, _, _, _, _, _, _, _ => none
  | k + 1, x27, x511000, x511001, x512000, x512001, x512002, x512003, x512004 => if x27 = true then (some (([] : List (S26)), 39)) else ((midrangeref04_Place.f k x511000 x511001 x512001).bind fun t523 => (if 0 ≤ t523 then (if t523 < (x511000.length : Int) then (if x512000 = 1 then ((midrangeref04_Pages.f ((rd_T46 x511000 t523).f1)).bind fun t525 => (if ([] : List (S26)).length < 2932031007402 then (some ((([] : List (S26)) ++ [(⟨2, x512001, 0, t525, (⟨#[]⟩ : ByteArray)⟩ : S26)]), 0)) else (none))) else (if x512000 = 2 then (if 0 ≤ (wrap64 (x512003 * 32)) then (if (wrap64 (x512003 * 32)) ≤ (((rd_T46 x511000 t523).f1).size : Int) then (if (((rd_T46 x511000 t523).f1).extract ((wrap64 (x512003 * 32)) : Int).toNat ((rd_T46 x511000 t523).f1).size).toList = ([] : List UInt8) then ((midrangeref04_Zeros.f k ((((rd_T46 x511000 t523).f1).size - ((wrap64 (x512003 * 32)) : Int).toNat : Nat) : Int)).bind fun t529 => (if (((rd_T46 x511000 t523).f1).extract ((wrap64 (x512003 * 32)) : Int).toNat ((rd_T46 x511000 t523).f1).size).toList = t529.toList then (some (([] : List (S26)), 0)) else (if ([] : List (S26)).length < 2932031007402 then (some ((([] : List (S26)) ++ [(⟨4, x512001, wrap64 (x512003 * 32), 0, ((rd_T46 x511000 t523).f1).extract ((wrap64 (x512003 * 32)) : Int).toNat ((rd_T46 x511000 t523).f1).size⟩ : S26)]), 0)) else (none)))) else ((midrangeref04_Pages.f (((rd_T46 x511000 t523).f1).extract ((wrap64 (x512003 * 32)) : Int).toNat ((rd_T46 x511000 t523).f1).size)).bind fun t533 => (if ([] : List (S26)).length < 2932031007402 then ((some (([] : List (S26)) ++ [(⟨1, x512001, 0, t533, (⟨#[]⟩ : ByteArray)⟩ : S26)] : List (S26))).bind fun y534 => ((midrangeref04_Zeros.f k ((((rd_T46 x511000 t523).f1).size - ((wrap64 (x512003 * 32)) : Int).toNat : Nat) : Int)).bind fun t537 => (if (((rd_T46 x511000 t523).f1).extract ((wrap64 (x512003 * 32)) : Int).toNat ((rd_T46 x511000 t523).f1).size).toList = t537.toList then (some (y534, 0)) else (if y534.length < 2932031007402 then (some ((y534 ++ [(⟨4, x512001, wrap64 (x512003 * 32), 0, ((rd_T46 x511000 t523).f1).extract ((wrap64 (x512003 * 32)) : Int).toNat ((rd_T46 x511000 t523).f1).size⟩ : S26)]), 0)) else (none))))) else (none)))) else (none)) else (none)) else (if x512000 = 4 then (if 0 ≤ x512002 then (if x512002 ≤ (wrap64 (x512002 + (x512004.size : Int))) then (if (wrap64 (x512002 + (x512004.size : Int))) ≤ (((rd_T46 x511000 t523).f1).size : Int) then (if (((rd_T46 x511000 t523).f1).extract (x512002 : Int).toNat ((wrap64 (x512002 + (x512004.size : Int))) : Int).toNat).toList = x512004.toList then (some (([] : List (S26)), 0)) else (if ([] : List (S26)).length < 2932031007402 then (some ((([] : List (S26)) ++ [(⟨4, x512001, x512002, 0, ((rd_T46 x511000 t523).f1).extract (x512002 : Int).toNat ((wrap64 (x512002 + (x512004.size : Int))) : Int).toNat⟩ : S26)]), 0)) else (none))) else (none)) else (none)) else (none)) else (some (([] : List (S26)), 0))))) else (none)) else (none)))
def midrangeref04_Undo.f (k : Nat) (l0_0 : List (S46)) (a0_1 : Int) (a1_0 : Int) (a1_1 : Int) (a1_2 : Int) (a1_3 : Int) (a1_4 : ByteArray) : Option ((List (S26)) × Int) := (midrangeref04_Applied.f k l0_0 a0_1 (([(⟨a1_0, a1_1, a1_2, a1_3, a1_4⟩ : S26)] : List (S26)))).bind fun bt515 => (if bt515.2.2.2.2 = 0 then (if a1_0 = 0 then (midrangeref04_Undo.j0 k true l0_0 a0_1 a1_0 a1_1 a1_2 a1_3 a1_4) else (midrangeref04_Undo.j0 k (a1_0 == 3) l0_0 a0_1 a1_0 a1_1 a1_2 a1_3 a1_4)) else (some (([] : List (S26)), bt515.2.2.2.2)))
def midrangeref04_Undo.T6 : Bool × List (List Nat × List Nat) := (true, [([], []), ([0], [0]), ([], []), ([], []), ([3], [3]), ([2, 4], [2, 4]), ([1, 5], [1, 5]), ([6], [6]), ([7], [7]), ([8, 5, 0, 1, 2, 3, 4, 5, 6, 7, 8], [8])])
def midrangeref04_Undo.B6 : List Nat := [0, 1, 0, 0, 8, 28, 63, 127, 255, 511]
theorem midrangeref04_Undo.tab6 : rtab .any (opsOf Tryd.f9 6) = midrangeref04_Undo.T6 := by kernel_rfl
theorem midrangeref04_Undo.bits6 : waitsOk midrangeref04_Undo.T6.2 midrangeref04_Undo.B6 = true := by kernel_rfl
def midrangeref04_Undo.T10 : Bool × List (List Nat × List Nat) := (true, [([], []), ([], []), ([1], [1]), ([], []), ([3], [3]), ([2, 4], [2, 4]), ([5], [5]), ([0, 6, 4], [0, 6]), ([7, 7, 0, 1, 2, 3, 4, 5, 6, 7], [0, 7])])
def midrangeref04_Undo.B10 : List Nat := [0, 0, 2, 0, 8, 30, 62, 127, 255]
theorem midrangeref04_Undo.tab10 : rtab .any (opsOf Tryd.f9 10) = midrangeref04_Undo.T10 := by kernel_rfl
theorem midrangeref04_Undo.bits10 : waitsOk midrangeref04_Undo.T10.2 midrangeref04_Undo.B10 = true := by kernel_rfl
def midrangeref04_Undo.T14 : Bool × List (List Nat × List Nat) := (true, [([], []), ([], []), ([1], [1]), ([], []), ([3], [3]), ([2, 4], [2, 4]), ([5], [5]), ([0, 6, 4], [0, 6]), ([7, 7, 0, 1, 2, 3, 4, 5, 6, 7], [0, 7])])
def midrangeref04_Undo.B14 : List Nat := [0, 0, 2, 0, 8, 30, 62, 127, 255]
theorem midrangeref04_Undo.tab14 : rtab .any (opsOf Tryd.f9 14) = midrangeref04_Undo.T14 := by kernel_rfl
theorem midrangeref04_Undo.bits14 : waitsOk midrangeref04_Undo.T14.2 midrangeref04_Undo.B14 = true := by kernel_rfl
set_option maxHeartbeats 8000000 in
set_option maxRecDepth 100000 in
theorem midrangeref04_Undo.calls (k : Nat) (A0_0 : Option Addr) (c0_0 : Nat) (l0_0 : List (S46)) (a0_1 : Int) (a1_0 : Int) (a1_1 : Int) (a1_2 : Int) (a1_3 : Int) (a1_4 : ByteArray) (r1 : List (S26)) (r2 : Int) (w : World) (hr0_0 : Kd.C k46 w A0_0 l0_0.length l0_0) (hc0_0 : l0_0.length ≤ c0_0) (h : midrangeref04_Undo.f k l0_0 a0_1 a1_0 a1_1 a1_2 a1_3 a1_4 = some (r1, r2)) :
  Calls Tryd.prog 9 #[.agg #[.slice A0_0 l0_0.length c0_0, .int .i64 a0_1], .agg #[.int .i64 a1_0, .int .i64 a1_1, .int .i64 a1_2, .int .i64 a1_3, .string a1_4]] w fun e w' => ∃ v0_ : Value, e = .returned (.tuple #[v0_, .int .i64 r2]) ∧ Kd.R k26 26 w' w.heap.size (fun _ => True) v0_ r1 ∧ Below w.heap.size w w' := by
 have hu24 := Tryd.underlying24
 have hu26 := Tryd.underlying26
 have hu51 := Tryd.underlying51
 have HR0_0 := Aside0.mk hr0_0
 have HC0_0 := Aside0.mk hc0_0
 clear hr0_0 hc0_0
 have HB := Aside0.mk (Below.refl w.heap.size w)
 have H : ((midrangeref04_Applied.f k l0_0 a0_1 (([(⟨a1_0, a1_1, a1_2, a1_3, a1_4⟩ : S26)] : List (S26)))).bind fun bt515 => (if bt515.2.2.2.2 = 0 then (if a1_0 = 0 then (midrangeref04_Undo.j0 k true l0_0 a0_1 a1_0 a1_1 a1_2 a1_3 a1_4) else (midrangeref04_Undo.j0 k (a1_0 == 3) l0_0 a0_1 a1_0 a1_1 a1_2 a1_3 a1_4)) else (some (([] : List (S26)), bt515.2.2.2.2)))) = some (r1, r2) := h
 clear h
 obtain ⟨y512, hy512⟩ : ∃ y_ : List (S26), y_ = (([(⟨a1_0, a1_1, a1_2, a1_3, a1_4⟩ : S26)] : List (S26))) := ⟨_, rfl⟩
 replace H : ((midrangeref04_Applied.f k l0_0 a0_1 y512).bind fun bt515 => (if bt515.2.2.2.2 = 0 then (if a1_0 = 0 then (midrangeref04_Undo.j0 k true l0_0 a0_1 a1_0 a1_1 a1_2 a1_3 a1_4) else (midrangeref04_Undo.j0 k (a1_0 == 3) l0_0 a0_1 a1_0 a1_1 a1_2 a1_3 a1_4)) else (some (([] : List (S26)), bt515.2.2.2.2)))) = some (r1, r2) := by first | (rw [hy512]; with_reducible exact H) | (have H2_ := (Option.bind_some _ _).symm.trans H; rw [hy512]; with_reducible exact H2_) | (have H2_ := (Option.bind_some _ _).symm.trans H; with_reducible exact H2_) | with_reducible exact H | (rw [hy512]; exact H) | exact H
 have Ny512 := Aside0.mk hy512
 clear hy512
 replace H := Option.bind_eq_some_iff.mp H
 obtain ⟨⟨t515, t518, t519, t520, t521⟩, A30, H⟩ := H
 replace H : (if t521 = 0 then (if a1_0 = 0 then (midrangeref04_Undo.j0 k true l0_0 a0_1 a1_0 a1_1 a1_2 a1_3 a1_4) else (midrangeref04_Undo.j0 k (a1_0 == 3) l0_0 a0_1 a1_0 a1_1 a1_2 a1_3 a1_4)) else (some (([] : List (S26)), t521))) = some (r1, r2) := H
 have A3 := Aside0.mk A30
 clear A30
 by_cases c4 : t521 = 0
 ·
  rw [if_pos c4] at H
  have c4b0 : (t521 == 0) = true := beq_iff_eq.mpr c4
  have c4b1 : (t521 != 0) = false := bne_eq_false_iff_eq.mpr c4
  clear c4
  have HC5 := Aside0.mk H
  clear H
  go_enter Tryd.func9, Tryd.ntmps9
  go_upto_region 4 with (first | ((with_reducible refine gate_dst (N := 2) rfl ?_); refine bx_ 2 #[.slice A0_0 l0_0.length c0_0, .int .i64 a0_1] 24 ?_; intro gb510 hg w6 hbox hb; have BK510 := Aside0.mk (hbox); have GW510 := gw_ hg HB; have GE510 := gw_ hg HB; replace HB := sb_ HB hb; clear hb hbox hg) | ((with_reducible refine gate_dst (N := 3) rfl ?_); refine bx_ 3 #[.int .i64 a1_0, .int .i64 a1_1, .int .i64 a1_2, .int .i64 a1_3, .string a1_4] 26 ?_; intro gb511 hg w7 hbox hb; have BK511 := Aside0.mk (hbox); have GW511 := gw_ hg HB; have GE511 := gw_ hg HB; replace HB := sb_ HB hb; have NB510_511 := nl_ hg BK510; have NB511_510 := ng_ hg BK510; replace BK510 := kb_ BK510 hb; clear hb hbox hg; have hnb8 := NB510_511.out; have hnc8 := NB511_510.out; have hcz9_0 := cz_ BK510 0 (.slice A0_0 l0_0.length c0_0); have hcz9_1 := cz_ BK510 1 (.int .i64 a0_1); have hfz9_0 := blk_frozen BK510.out 0; have hfz9_1 := blk_frozen BK510.out 1; have hcz10_0 := cz_ BK511 0 (.int .i64 a1_0); have hcz10_1 := cz_ BK511 1 (.int .i64 a1_1); have hcz10_2 := cz_ BK511 2 (.int .i64 a1_2); have hcz10_3 := cz_ BK511 3 (.int .i64 a1_3); have hcz10_4 := cz_ BK511 4 (.string a1_4); have hfz10_0 := blk_frozen BK511.out 0; have hfz10_1 := blk_frozen BK511.out 1; have hfz10_2 := blk_frozen BK511.out 2; have hfz10_3 := blk_frozen BK511.out 3; have hfz10_4 := blk_frozen BK511.out 4) | ((with_reducible refine gate_dst (N := 13) rfl ?_); refine Kd.R_lit k26 _ 26 ?hg (N := 13) ?hd (xs := ([(⟨a1_0, a1_1, a1_2, a1_3, a1_4⟩ : S26)] : List (S26))) (inner := [.int .i64 a1_0, .int .i64 a1_1, .int .i64 a1_2, .int .i64 a1_3, .string a1_4]) (ok := fun _ => True) (okp := fun _ => True) ?hr ?hp (fun _ hk => hk) trivial (Below.refl _ _) (Nat.le_refl _) (by simp) ?_; (case hd => rfl); (case hg => rfl); (case hr => first | (go_simp; done) | (go_simp; rfl)); (case hp => exact (Reps.c5 (show Kd.M k26 _ _ _ (⟨a1_0, a1_1, a1_2, a1_3, a1_4⟩ : S26) [.int .i64 a1_0, .int .i64 a1_1, .int .i64 a1_2, .int .i64 a1_3, .string a1_4] from (k26_mkM _ _ _ (⟨a1_0, a1_1, a1_2, a1_3, a1_4⟩ : S26) )) (Reps.none _ _))); intro v513 w11 ho12 hb hg_ hnew_; clear hg_ hnew_; (first | rw [← Ny512.out] at ho12 | (simp only [Int.reduceToNat] at ho12; rw [← Ny512.out] at ho12)); have HO514 := Aside0.mk (Kd.R_lower (Kd.R_newB ho12 (g := gb511) (o := .cells #[.int .i64 a1_0, .int .i64 a1_1, .int .i64 a1_2, .int .i64 a1_3, .string a1_4] 26 (0, 0)) (pk_ BK511)) (below_size (pb_ HB))); replace BK510 := kb_ BK510 hb; replace BK511 := kb_ BK511 hb; replace HB := sb_ HB hb; clear hb ho12; obtain ⟨Ao13, co13, eo13⟩ := Kd.R_slice HO514.out; subst eo13) | ((with_reducible refine gate_callee (f := 18) rfl ?_); refine gl_ 14 Tryd.func18 #[.agg #[.slice A0_0 l0_0.length c0_0, .int .i64 a0_1], .slice Ao13 y512.length co13] ?_; (with_reducible refine (midrangeref04_Applied.calls k (fun k_ => k_ < w.heap.size) _ _ l0_0 a0_1 _ _ y512 t515 t518 t519 t520 t521 _ ?side1 ?side2 ?side3 A3.out).mono ?_); (case side1 => exact Kd.V_mk HC0_0.out (Kd.F_below (Kd.C_F k46_heap HR0_0.out) (pb_ HB))); (case side2 => exact pc_ (Kd.R_reads' HO514.out).2.2); (case side3 => exact (Kd.R_reads' HO514.out).2.1); rintro e w14 ⟨v516, rfl, ho0, hb⟩; refine ⟨_, rfl, ?_⟩; replace HO514 := Aside0.mk (Kd.R_below (rk_ HO514) hb); have HO517 := Aside0.mk (Kd.R_lower (Kd.R_mono (ok' := fun k_ => True) ho0 (fun _ hk_ => trivial)) (below_size (pb_ HB))); replace BK510 := kb_ BK510 hb; replace BK511 := kb_ BK511 hb; replace HB := sb_ HB hb; (try clear hb); (try clear hb2); (try clear hk); (try clear hi); (try clear ho0)) | ((with_reducible refine gate_dst (N := 6) rfl ?_); refine bx_ 6 #[.slice none 0 0, .int .i64 0, .int .i64 0, .string (⟨#[]⟩ : ByteArray), .int .i64 0] 51 ?_; intro gb522 hg w15 hbox hb; replace HO514 := Aside0.mk (Kd.R_below (rk_ HO514) hb); replace HO517 := Aside0.mk (Kd.R_below (rk_ HO517) hb); have BK522 := Aside0.mk (hbox); have GW522 := gw_ hg HB; have GE522 := gw_ hg HB; replace HB := sb_ HB hb; have NB510_522 := nl_ hg BK510; have NB522_510 := ng_ hg BK510; replace BK510 := kb_ BK510 hb; have NB511_522 := nl_ hg BK511; have NB522_511 := ng_ hg BK511; replace BK511 := kb_ BK511 hb; clear hb hbox hg; obtain ⟨Ao16, co16, eo16⟩ := Kd.R_slice HO517.out; subst eo16; have hnb17 := NB522_510.out; have hnc17 := NB510_522.out; have hnb18 := NB522_511.out; have hnc18 := NB511_522.out; have hcz19_0 := cz_ BK522 0 (.slice none 0 0); have hcz19_1 := cz_ BK522 1 (.int .i64 0); have hcz19_2 := cz_ BK522 2 (.int .i64 0); have hcz19_3 := cz_ BK522 3 (.string (⟨#[]⟩ : ByteArray)); have hcz19_4 := cz_ BK522 4 (.int .i64 0); have hfz19_0 := blk_frozen BK522.out 0; have hfz19_1 := blk_frozen BK522.out 1; have hfz19_2 := blk_frozen BK522.out 2; have hfz19_3 := blk_frozen BK522.out 3; have hfz19_4 := blk_frozen BK522.out 4))
  (try simp only [Act.put, List.setIfInBounds_toArray, List.set_cons_zero, List.set_cons_succ])
  go_cut [27] (fun v27 wc => ∃ (kq : Nat) (x27_4 : Bool), v27 = .bool x27_4 ∧ Aside0 (midrangeref04_Undo.j0 kq x27_4 l0_0 a0_1 a1_0 a1_1 a1_2 a1_3 a1_4 = some (r1, r2)) ∧ Aside0 (kq ≤ k) ∧ Aside0 (Kd.R k46 46 wc w.heap.size (fun _ => True) (.slice Ao16 t515.length co16) t515) ∧ Aside0 (wc.heap[gb510]? = some (.cells #[(.slice A0_0 l0_0.length c0_0), .int .i64 a0_1] 24 (0, 0))) ∧ Aside0 (wc.heap[gb511]? = some (.cells #[.int .i64 a1_0, .int .i64 a1_1, .int .i64 a1_2, .int .i64 a1_3, .string a1_4] 26 (0, 0))) ∧ Aside0 (wc.heap[gb522]? = some (.cells #[(.slice Ao16 t515.length co16), .int .i64 t518, .int .i64 t519, .string t520, .int .i64 t521] 51 (0, 0))) ∧ Aside0 (Below w.heap.size w wc))
  case first =>
   have H := HC5.out
   clear HC5
   by_cases c20 : a1_0 = 0
   ·
    rw [if_pos c20] at H
    have c20b0 : (a1_0 == 0) = true := beq_iff_eq.mpr c20
    have c20b1 : (a1_0 != 0) = false := bne_eq_false_iff_eq.mpr c20
    clear c20
    (first | rw [c20b0] | (simp only [i64_w, i32_w]; rw [c20b0]) | skip)
    have H' := Aside0.mk H
    clear H
    have hnb21 := NB511_510.out
    have hnc21 := NB510_511.out
    have hnb22 := NB511_522.out
    have hnc22 := NB522_511.out
    have hcz23_0 := cz_ BK511 0 (.int .i64 a1_0)
    have hcz23_1 := cz_ BK511 1 (.int .i64 a1_1)
    have hcz23_2 := cz_ BK511 2 (.int .i64 a1_2)
    have hcz23_3 := cz_ BK511 3 (.int .i64 a1_3)
    have hcz23_4 := cz_ BK511 4 (.string a1_4)
    have hfz23_0 := blk_frozen BK511.out 0
    have hfz23_1 := blk_frozen BK511.out 1
    have hfz23_2 := blk_frozen BK511.out 2
    have hfz23_3 := blk_frozen BK511.out 3
    have hfz23_4 := blk_frozen BK511.out 4
    go_wp2
    go_meet
    case rel => exact ⟨_, (true), rl_, H', ⟨by first | omega | exact Nat.le_refl _⟩, ⟨by (with_reducible repeat (first | apply Kd.R_alloc | apply Kd.R_drewN | apply Kd.R_drew)); exact Kd.R_mono (Kd.R_far (p := ⟨gb522, 4, none⟩) (Kd.R_far (p := ⟨gb522, 3, none⟩) (Kd.R_far (p := ⟨gb522, 2, none⟩) (Kd.R_far (p := ⟨gb522, 1, none⟩) (Kd.R_far (p := ⟨gb522, 0, none⟩) (Kd.R_types HO517.out BK522.out (by decide)) (fun _ hk => hk.2) (.slice Ao16 t515.length co16)) (fun _ hk => hk.2) (.int .i64 t518)) (fun _ hk => hk.2) (.int .i64 t519)) (fun _ hk => hk.2) (.string t520)) (fun _ hk => hk.2) (.int .i64 t521)) (fun _ hk => trivial)⟩, ⟨by (with_reducible repeat (first | refine blk_drewN ?_ _ | refine blk_drew ?_ | refine blk_alloc ?_ _)); refine blk_far ?_ NB510_522.out _; (with_reducible repeat (first | refine blk_drewN ?_ _ | refine blk_drew ?_ | refine blk_alloc ?_ _)); refine blk_far ?_ NB510_522.out _; (with_reducible repeat (first | refine blk_drewN ?_ _ | refine blk_drew ?_ | refine blk_alloc ?_ _)); refine blk_far ?_ NB510_522.out _; (with_reducible repeat (first | refine blk_drewN ?_ _ | refine blk_drew ?_ | refine blk_alloc ?_ _)); refine blk_far ?_ NB510_522.out _; (with_reducible repeat (first | refine blk_drewN ?_ _ | refine blk_drew ?_ | refine blk_alloc ?_ _)); refine blk_far ?_ NB510_522.out _; (with_reducible repeat (first | refine blk_drewN ?_ _ | refine blk_drew ?_ | refine blk_alloc ?_ _)); exact BK510.out⟩, ⟨by (with_reducible repeat (first | refine blk_drewN ?_ _ | refine blk_drew ?_ | refine blk_alloc ?_ _)); refine blk_far ?_ NB511_522.out _; (with_reducible repeat (first | refine blk_drewN ?_ _ | refine blk_drew ?_ | refine blk_alloc ?_ _)); refine blk_far ?_ NB511_522.out _; (with_reducible repeat (first | refine blk_drewN ?_ _ | refine blk_drew ?_ | refine blk_alloc ?_ _)); refine blk_far ?_ NB511_522.out _; (with_reducible repeat (first | refine blk_drewN ?_ _ | refine blk_drew ?_ | refine blk_alloc ?_ _)); refine blk_far ?_ NB511_522.out _; (with_reducible repeat (first | refine blk_drewN ?_ _ | refine blk_drew ?_ | refine blk_alloc ?_ _)); refine blk_far ?_ NB511_522.out _; (with_reducible repeat (first | refine blk_drewN ?_ _ | refine blk_drew ?_ | refine blk_alloc ?_ _)); exact BK511.out⟩, ⟨bq_ BK522⟩, ⟨pb_ HB⟩⟩
   rw [if_neg c20] at H
   have c20b0 : (a1_0 == 0) = false := beq_eq_false_iff_ne.mpr c20
   have c20b1 : (a1_0 != 0) = true := bne_iff_ne.mpr c20
   (first | rw [c20b0] | (simp only [i64_w, i32_w]; rw [c20b0]) | skip)
   have H' := Aside0.mk H
   clear H
   have hnb24 := NB511_510.out
   have hnc24 := NB510_511.out
   have hnb25 := NB511_522.out
   have hnc25 := NB522_511.out
   have hcz26_0 := cz_ BK511 0 (.int .i64 a1_0)
   have hcz26_1 := cz_ BK511 1 (.int .i64 a1_1)
   have hcz26_2 := cz_ BK511 2 (.int .i64 a1_2)
   have hcz26_3 := cz_ BK511 3 (.int .i64 a1_3)
   have hcz26_4 := cz_ BK511 4 (.string a1_4)
   have hfz26_0 := blk_frozen BK511.out 0
   have hfz26_1 := blk_frozen BK511.out 1
   have hfz26_2 := blk_frozen BK511.out 2
   have hfz26_3 := blk_frozen BK511.out 3
   have hfz26_4 := blk_frozen BK511.out 4
   go_wp2
   go_meet
   case rel => exact ⟨_, ((a1_0 == 3)), rl_, H', ⟨by first | omega | exact Nat.le_refl _⟩, ⟨by (with_reducible repeat (first | apply Kd.R_alloc | apply Kd.R_drewN | apply Kd.R_drew)); exact Kd.R_mono (Kd.R_far (p := ⟨gb522, 4, none⟩) (Kd.R_far (p := ⟨gb522, 3, none⟩) (Kd.R_far (p := ⟨gb522, 2, none⟩) (Kd.R_far (p := ⟨gb522, 1, none⟩) (Kd.R_far (p := ⟨gb522, 0, none⟩) (Kd.R_types HO517.out BK522.out (by decide)) (fun _ hk => hk.2) (.slice Ao16 t515.length co16)) (fun _ hk => hk.2) (.int .i64 t518)) (fun _ hk => hk.2) (.int .i64 t519)) (fun _ hk => hk.2) (.string t520)) (fun _ hk => hk.2) (.int .i64 t521)) (fun _ hk => trivial)⟩, ⟨by (with_reducible repeat (first | refine blk_drewN ?_ _ | refine blk_drew ?_ | refine blk_alloc ?_ _)); refine blk_far ?_ NB510_522.out _; (with_reducible repeat (first | refine blk_drewN ?_ _ | refine blk_drew ?_ | refine blk_alloc ?_ _)); refine blk_far ?_ NB510_522.out _; (with_reducible repeat (first | refine blk_drewN ?_ _ | refine blk_drew ?_ | refine blk_alloc ?_ _)); refine blk_far ?_ NB510_522.out _; (with_reducible repeat (first | refine blk_drewN ?_ _ | refine blk_drew ?_ | refine blk_alloc ?_ _)); refine blk_far ?_ NB510_522.out _; (with_reducible repeat (first | refine blk_drewN ?_ _ | refine blk_drew ?_ | refine blk_alloc ?_ _)); refine blk_far ?_ NB510_522.out _; (with_reducible repeat (first | refine blk_drewN ?_ _ | refine blk_drew ?_ | refine blk_alloc ?_ _)); exact BK510.out⟩, ⟨by (with_reducible repeat (first | refine blk_drewN ?_ _ | refine blk_drew ?_ | refine blk_alloc ?_ _)); refine blk_far ?_ NB511_522.out _; (with_reducible repeat (first | refine blk_drewN ?_ _ | refine blk_drew ?_ | refine blk_alloc ?_ _)); refine blk_far ?_ NB511_522.out _; (with_reducible repeat (first | refine blk_drewN ?_ _ | refine blk_drew ?_ | refine blk_alloc ?_ _)); refine blk_far ?_ NB511_522.out _; (with_reducible repeat (first | refine blk_drewN ?_ _ | refine blk_drew ?_ | refine blk_alloc ?_ _)); refine blk_far ?_ NB511_522.out _; (with_reducible repeat (first | refine blk_drewN ?_ _ | refine blk_drew ?_ | refine blk_alloc ?_ _)); refine blk_far ?_ NB511_522.out _; (with_reducible repeat (first | refine blk_drewN ?_ _ | refine blk_drew ?_ | refine blk_alloc ?_ _)); exact BK511.out⟩, ⟨bq_ BK522⟩, ⟨pb_ HB⟩⟩
  case rest =>
   clear HC5
   try clear c1
   try clear c2
   try clear p2
   try clear c4
   try clear c4b0
   try clear c4b1
   try clear c5
   try clear c8
   try clear c9
   try clear c17
   try clear c18
   try clear c20
   try clear c20b0
   try clear c20b1
   try clear c21
   try clear c22
   try clear c24
   try clear c25
   try clear hcz10_0
   try clear hcz10_1
   try clear hcz10_2
   try clear hcz10_3
   try clear hcz10_4
   try clear hcz19_0
   try clear hcz19_1
   try clear hcz19_2
   try clear hcz19_3
   try clear hcz19_4
   try clear hcz23_0
   try clear hcz23_1
   try clear hcz23_2
   try clear hcz23_3
   try clear hcz23_4
   try clear hcz26_0
   try clear hcz26_1
   try clear hcz26_2
   try clear hcz26_3
   try clear hcz26_4
   try clear hcz9_0
   try clear hcz9_1
   try clear hfz10_0
   try clear hfz10_1
   try clear hfz10_2
   try clear hfz10_3
   try clear hfz10_4
   try clear hfz19_0
   try clear hfz19_1
   try clear hfz19_2
   try clear hfz19_3
   try clear hfz19_4
   try clear hfz23_0
   try clear hfz23_1
   try clear hfz23_2
   try clear hfz23_3
   try clear hfz23_4
   try clear hfz26_0
   try clear hfz26_1
   try clear hfz26_2
   try clear hfz26_3
   try clear hfz26_4
   try clear hfz9_0
   try clear hfz9_1
   obtain ⟨kq, x27_4, rfl, HA, HJ4, HO_523000, BK510, BK511, BK522, HB⟩ := hcut
   cases kq with
   | zero => exact absurd HA.out (by simp [midrangeref04_Undo.j0])
   | succ kj4 =>
    have H := HA.out
    clear HA
    simp only [midrangeref04_Undo.j0] at H
    by_cases c27 : x27_4 = true
    ·
     subst c27
     have H1 : (some (([] : List (S26)), 39)) = some (r1, r2) := by rw [if_pos rfl] at H; exact H
     clear H
     have H := H1
     clear H1
     simp only [Option.some.injEq, Prod.mk.injEq] at H
     obtain ⟨rfl, rfl⟩ := H
     go_wp2
     go_ret2
     exact ⟨_, er_, by first | exact Kd.R_nil _ _ _ _ _ | exact Kd.N_nil _ _ _ _ _ | exact Kd.V_nil _ _ _ _ _ | exact Kd.Q_nil _ _ _ _ _ | exact Kd.S_nil _ _ _ _ _, pb_ HB⟩
    replace c27 := Bool.eq_false_iff.mpr c27
    subst c27
    have H1 : ((midrangeref04_Place.f kj4 l0_0 a0_1 a1_1).bind fun t523 => (if 0 ≤ t523 then (if t523 < (l0_0.length : Int) then (if a1_0 = 1 then ((midrangeref04_Pages.f ((rd_T46 l0_0 t523).f1)).bind fun t525 => (if ([] : List (S26)).length < 2932031007402 then (some ((([] : List (S26)) ++ [(⟨2, a1_1, 0, t525, (⟨#[]⟩ : ByteArray)⟩ : S26)]), 0)) else (none))) else (if a1_0 = 2 then (if 0 ≤ (wrap64 (a1_3 * 32)) then (if (wrap64 (a1_3 * 32)) ≤ (((rd_T46 l0_0 t523).f1).size : Int) then (if (((rd_T46 l0_0 t523).f1).extract ((wrap64 (a1_3 * 32)) : Int).toNat ((rd_T46 l0_0 t523).f1).size).toList = ([] : List UInt8) then ((midrangeref04_Zeros.f kj4 ((((rd_T46 l0_0 t523).f1).size - ((wrap64 (a1_3 * 32)) : Int).toNat : Nat) : Int)).bind fun t529 => (if (((rd_T46 l0_0 t523).f1).extract ((wrap64 (a1_3 * 32)) : Int).toNat ((rd_T46 l0_0 t523).f1).size).toList = t529.toList then (some (([] : List (S26)), 0)) else (if ([] : List (S26)).length < 2932031007402 then (some ((([] : List (S26)) ++ [(⟨4, a1_1, wrap64 (a1_3 * 32), 0, ((rd_T46 l0_0 t523).f1).extract ((wrap64 (a1_3 * 32)) : Int).toNat ((rd_T46 l0_0 t523).f1).size⟩ : S26)]), 0)) else (none)))) else ((midrangeref04_Pages.f (((rd_T46 l0_0 t523).f1).extract ((wrap64 (a1_3 * 32)) : Int).toNat ((rd_T46 l0_0 t523).f1).size)).bind fun t533 => (if ([] : List (S26)).length < 2932031007402 then ((some (([] : List (S26)) ++ [(⟨1, a1_1, 0, t533, (⟨#[]⟩ : ByteArray)⟩ : S26)] : List (S26))).bind fun y534 => ((midrangeref04_Zeros.f kj4 ((((rd_T46 l0_0 t523).f1).size - ((wrap64 (a1_3 * 32)) : Int).toNat : Nat) : Int)).bind fun t537 => (if (((rd_T46 l0_0 t523).f1).extract ((wrap64 (a1_3 * 32)) : Int).toNat ((rd_T46 l0_0 t523).f1).size).toList = t537.toList then (some (y534, 0)) else (if y534.length < 2932031007402 then (some ((y534 ++ [(⟨4, a1_1, wrap64 (a1_3 * 32), 0, ((rd_T46 l0_0 t523).f1).extract ((wrap64 (a1_3 * 32)) : Int).toNat ((rd_T46 l0_0 t523).f1).size⟩ : S26)]), 0)) else (none))))) else (none)))) else (none)) else (none)) else (if a1_0 = 4 then (if 0 ≤ a1_2 then (if a1_2 ≤ (wrap64 (a1_2 + (a1_4.size : Int))) then (if (wrap64 (a1_2 + (a1_4.size : Int))) ≤ (((rd_T46 l0_0 t523).f1).size : Int) then (if (((rd_T46 l0_0 t523).f1).extract (a1_2 : Int).toNat ((wrap64 (a1_2 + (a1_4.size : Int))) : Int).toNat).toList = a1_4.toList then (some (([] : List (S26)), 0)) else (if ([] : List (S26)).length < 2932031007402 then (some ((([] : List (S26)) ++ [(⟨4, a1_1, a1_2, 0, ((rd_T46 l0_0 t523).f1).extract (a1_2 : Int).toNat ((wrap64 (a1_2 + (a1_4.size : Int))) : Int).toNat⟩ : S26)]), 0)) else (none))) else (none)) else (none)) else (none)) else (some (([] : List (S26)), 0))))) else (none)) else (none))) = some (r1, r2) := by rw [if_neg (show ¬ (false = true) by decide)] at H; exact H
    clear H
    have H := H1
    clear H1
    replace H := Option.bind_eq_some_iff.mp H
    obtain ⟨t523, A280, H⟩ := H
    replace H : (if 0 ≤ t523 then (if t523 < (l0_0.length : Int) then (if a1_0 = 1 then ((midrangeref04_Pages.f ((rd_T46 l0_0 t523).f1)).bind fun t525 => (if ([] : List (S26)).length < 2932031007402 then (some ((([] : List (S26)) ++ [(⟨2, a1_1, 0, t525, (⟨#[]⟩ : ByteArray)⟩ : S26)]), 0)) else (none))) else (if a1_0 = 2 then (if 0 ≤ (wrap64 (a1_3 * 32)) then (if (wrap64 (a1_3 * 32)) ≤ (((rd_T46 l0_0 t523).f1).size : Int) then (if (((rd_T46 l0_0 t523).f1).extract ((wrap64 (a1_3 * 32)) : Int).toNat ((rd_T46 l0_0 t523).f1).size).toList = ([] : List UInt8) then ((midrangeref04_Zeros.f kj4 ((((rd_T46 l0_0 t523).f1).size - ((wrap64 (a1_3 * 32)) : Int).toNat : Nat) : Int)).bind fun t529 => (if (((rd_T46 l0_0 t523).f1).extract ((wrap64 (a1_3 * 32)) : Int).toNat ((rd_T46 l0_0 t523).f1).size).toList = t529.toList then (some (([] : List (S26)), 0)) else (if ([] : List (S26)).length < 2932031007402 then (some ((([] : List (S26)) ++ [(⟨4, a1_1, wrap64 (a1_3 * 32), 0, ((rd_T46 l0_0 t523).f1).extract ((wrap64 (a1_3 * 32)) : Int).toNat ((rd_T46 l0_0 t523).f1).size⟩ : S26)]), 0)) else (none)))) else ((midrangeref04_Pages.f (((rd_T46 l0_0 t523).f1).extract ((wrap64 (a1_3 * 32)) : Int).toNat ((rd_T46 l0_0 t523).f1).size)).bind fun t533 => (if ([] : List (S26)).length < 2932031007402 then ((some (([] : List (S26)) ++ [(⟨1, a1_1, 0, t533, (⟨#[]⟩ : ByteArray)⟩ : S26)] : List (S26))).bind fun y534 => ((midrangeref04_Zeros.f kj4 ((((rd_T46 l0_0 t523).f1).size - ((wrap64 (a1_3 * 32)) : Int).toNat : Nat) : Int)).bind fun t537 => (if (((rd_T46 l0_0 t523).f1).extract ((wrap64 (a1_3 * 32)) : Int).toNat ((rd_T46 l0_0 t523).f1).size).toList = t537.toList then (some (y534, 0)) else (if y534.length < 2932031007402 then (some ((y534 ++ [(⟨4, a1_1, wrap64 (a1_3 * 32), 0, ((rd_T46 l0_0 t523).f1).extract ((wrap64 (a1_3 * 32)) : Int).toNat ((rd_T46 l0_0 t523).f1).size⟩ : S26)]), 0)) else (none))))) else (none)))) else (none)) else (none)) else (if a1_0 = 4 then (if 0 ≤ a1_2 then (if a1_2 ≤ (wrap64 (a1_2 + (a1_4.size : Int))) then (if (wrap64 (a1_2 + (a1_4.size : Int))) ≤ (((rd_T46 l0_0 t523).f1).size : Int) then (if (((rd_T46 l0_0 t523).f1).extract (a1_2 : Int).toNat ((wrap64 (a1_2 + (a1_4.size : Int))) : Int).toNat).toList = a1_4.toList then (some (([] : List (S26)), 0)) else (if ([] : List (S26)).length < 2932031007402 then (some ((([] : List (S26)) ++ [(⟨4, a1_1, a1_2, 0, ((rd_T46 l0_0 t523).f1).extract (a1_2 : Int).toNat ((wrap64 (a1_2 + (a1_4.size : Int))) : Int).toNat⟩ : S26)]), 0)) else (none))) else (none)) else (none)) else (none)) else (some (([] : List (S26)), 0))))) else (none)) else (none)) = some (r1, r2) := H
    have A28 := Aside0.mk A280
    clear A280
    by_cases c29 : 0 ≤ t523
    ·
     rw [if_pos c29] at H
     have c29b0 : decide (0 ≤ t523) = true := decide_eq_true c29
     clear c29
     by_cases c30 : t523 < (l0_0.length : Int)
     ·
      rw [if_pos c30] at H
      have c30b0 : decide (t523 < (l0_0.length : Int)) = true := decide_eq_true c30
      clear c30
      by_cases c31 : a1_0 = 1
      ·
       rw [if_pos c31] at H
       have c31b0 : (a1_0 == 1) = true := beq_iff_eq.mpr c31
       have c31b1 : (a1_0 != 1) = false := bne_eq_false_iff_eq.mpr c31
       clear c31
       replace H := Option.bind_eq_some_iff.mp H
       obtain ⟨t525, A320, H⟩ := H
       replace H : (if ([] : List (S26)).length < 2932031007402 then (some ((([] : List (S26)) ++ [(⟨2, a1_1, 0, t525, (⟨#[]⟩ : ByteArray)⟩ : S26)]), 0)) else (none)) = some (r1, r2) := H
       have A32 := Aside0.mk A320
       clear A320
       by_cases c33 : ([] : List (S26)).length < 2932031007402
       ·
        rw [if_pos c33] at H
        have LMc33 := Aside0.mk c33
        clear c33
        obtain ⟨y526, hy526⟩ : ∃ y_ : List (S26), y_ = (([] : List (S26)) ++ [(⟨2, a1_1, 0, t525, (⟨#[]⟩ : ByteArray)⟩ : S26)]) := ⟨_, rfl⟩
        replace H : (some (y526, 0)) = some (r1, r2) := by first | (rw [hy526]; with_reducible exact H) | (have H2_ := (Option.bind_some _ _).symm.trans H; rw [hy526]; with_reducible exact H2_) | (have H2_ := (Option.bind_some _ _).symm.trans H; with_reducible exact H2_) | with_reducible exact H | (rw [hy526]; exact H) | exact H
        have Ny526 := Aside0.mk hy526
        clear hy526
        simp only [Option.some.injEq, Prod.mk.injEq] at H
        obtain ⟨rfl, rfl⟩ := H
        try go_wp2
        replace HO_523000 := rd_ HO_523000
        replace BK510 := Aside0.mk (blk_drew BK510.out)
        replace BK511 := Aside0.mk (blk_drew BK511.out)
        replace BK522 := Aside0.mk (blk_drew BK522.out)
        replace HB := Aside0.mk (below_drew1 HB.out)
        have p524 : 0 ≤ (t523 : Int) := ct_
        have q524 : t523 < (l0_0.length : Int) := ct_
        obtain ⟨ad524, e524, hx524_0, hx524_1⟩ := at_T46 HR0_0.out t523 p524 q524
        have hw524_1 := hx524_1
        have hw524_0 := hx524_0
        cases e524
        replace hx524_0 := pw_cell_below HB.out hx524_0
        replace hx524_1 := pw_cell_below HB.out hx524_1
        replace p524 := eq_true p524
        replace q524 := eq_true q524
        refine start_ (n := 10) (S := fun w' => w'.cell? ⟨gb510, 0, none⟩ = some (.slice (some ad524) l0_0.length c0_0) ∧ w'.cell? ⟨gb510, 1, none⟩ = some (.int .i64 a0_1) ∧ w'.cell? ⟨gb511, 0, none⟩ = some (.int .i64 a1_0) ∧ w'.cell? ⟨gb511, 1, none⟩ = some (.int .i64 a1_1) ∧ w'.cell? ⟨gb511, 2, none⟩ = some (.int .i64 a1_2) ∧ w'.cell? ⟨gb511, 3, none⟩ = some (.int .i64 a1_3) ∧ w'.cell? ⟨gb511, 4, none⟩ = some (.string a1_4) ∧ w'.cell? (ad524.add ((t523).toNat * 2)) = some (.int .i64 ((rd_T46 l0_0 t523).f0)) ∧ w'.cell? ⟨(ad524.add ((t523).toNat * 2)).block, (ad524.add ((t523).toNat * 2)).off + 1, none⟩ = some (.string ((rd_T46 l0_0 t523).f1))) (ds := []) #[false, false, false, false, false, false, false, false, false, false] (by kernel_rfl) rfl rfl ⟨cy_ BK510 0, cy_ BK510 1, cy_ BK511 0, cy_ BK511 1, cy_ BK511 2, cy_ BK511 3, cy_ BK511 4, (pw_cell_below HB.out hw524_0), (pw_cell_below HB.out hw524_1)⟩ (fun hHeld => ?_); refine with_tabW midrangeref04_Undo.tab6 midrangeref04_Undo.bits6 (fun HT_ HW_ => ?_)
        generalize wc.drew = w34 at HO_523000 BK510 BK511 BK522 HB hx524_0 hx524_1 hHeld ⊢
        refine pu_ 0 28 HT_ ?_
        refine pu_ 3 31 HT_ ?_
        refine tk_ 1 29 HT_ HW_ hHeld rfl (Or.inl ⟨by rfl, by rintro w' ⟨s0, s1, s2, s3, s4, s5, s6, s7, s8⟩; go_simp; with_reducible rfl⟩) ?_
        refine tk_ 2 30 HT_ HW_ hHeld rfl (Or.inl ⟨by rfl, by rintro w' ⟨s0, s1, s2, s3, s4, s5, s6, s7, s8⟩; go_simp; with_reducible rfl⟩) ?_
        refine tk_ 4 32 HT_ HW_ hHeld rfl (Or.inl ⟨by rfl, by rintro w' ⟨s0, s1, s2, s3, s4, s5, s6, s7, s8⟩; go_simp; with_reducible rfl⟩) ?_
        refine one_ (i := 5) (N := some 33) #[true, true, true, true, true, true, false, false, false, false] rfl rfl (one_of HT_.out (by kernel_rfl)) (by decide) (fun K hK => ?_)
        refine goes_ Tryd.func19 (by kernel_rfl) rfl #[.agg #[.slice (some ad524) l0_0.length c0_0, .int .i64 a0_1], .int .i64 a1_1] (by rfl) rfl rfl (by (try simp only [List.map_toArray, List.map_cons, List.map_nil]); first | done | rfl | (simp only [List.length_drop, List.length_take]; rfl)) ?_
        with_reducible refine (midrangeref04_Place.calls kj4 _ _ l0_0 a0_1 a1_1 t523 _ ?side1 ?side2 A28.out).mono ?_
        (case side1 => exact pc_ (Kd.C_below HR0_0.out HB.out))
        (case side2 => exact HC0_0.out)
        rintro e w35 ⟨rfl, hb⟩
        refine ⟨_, rfl, ?_⟩
        replace HO_523000 := Aside0.mk (Kd.R_below (rk_ HO_523000) hb)
        replace BK510 := kb_ BK510 hb
        replace BK511 := kb_ BK511 hb
        replace BK522 := kb_ BK522 hb
        replace HB := sb_ HB hb
        (try clear hb)
        (try clear hb2)
        (try clear hk)
        (try clear hi)
        refine hK.out _ _ ⟨cy_ BK510 0, cy_ BK510 1, cy_ BK511 0, cy_ BK511 1, cy_ BK511 2, cy_ BK511 3, cy_ BK511 4, (pw_cell_below HB.out hw524_0), (pw_cell_below HB.out hw524_1)⟩ (fun hHeld => ?_)
        clear hK K
        refine nn_ 33 ?_
        refine pu_ 6 34 HT_ ?_
        refine pu_ 7 35 HT_ ?_
        refine tk_ 8 36 HT_ HW_ hHeld rfl (Or.inl ⟨by rfl, by rintro w' ⟨s0, s1, s2, s3, s4, s5, s6, s7, s8⟩; go_simp; with_reducible rfl⟩) ?_
        refine pu_ 9 7 HT_ ?_
        refine done_ (done_of HT_.out (by kernel_rfl)) ?_
        have hnb36 := NB511_510.out
        have hnc36 := NB510_511.out
        have hnb37 := NB511_522.out
        have hnc37 := NB522_511.out
        have hcz38_0 := cz_ BK511 0 (.int .i64 a1_0)
        have hcz38_1 := cz_ BK511 1 (.int .i64 a1_1)
        have hcz38_2 := cz_ BK511 2 (.int .i64 a1_2)
        have hcz38_3 := cz_ BK511 3 (.int .i64 a1_3)
        have hcz38_4 := cz_ BK511 4 (.string a1_4)
        have hfz38_0 := blk_frozen BK511.out 0
        have hfz38_1 := blk_frozen BK511.out 1
        have hfz38_2 := blk_frozen BK511.out 2
        have hfz38_3 := blk_frozen BK511.out 3
        have hfz38_4 := blk_frozen BK511.out 4
        try go_wp2
        replace HO_523000 := rd_ HO_523000
        replace BK510 := Aside0.mk (blk_drew BK510.out)
        replace BK511 := Aside0.mk (blk_drew BK511.out)
        replace BK522 := Aside0.mk (blk_drew BK522.out)
        replace HB := Aside0.mk (below_drew1 HB.out)
        refine start_ (n := 9) (S := fun w' => w'.cell? ⟨gb511, 0, none⟩ = some (.int .i64 a1_0) ∧ w'.cell? ⟨gb511, 1, none⟩ = some (.int .i64 a1_1) ∧ w'.cell? ⟨gb511, 2, none⟩ = some (.int .i64 a1_2) ∧ w'.cell? ⟨gb511, 3, none⟩ = some (.int .i64 a1_3) ∧ w'.cell? ⟨gb511, 4, none⟩ = some (.string a1_4)) (ds := []) #[false, false, false, false, false, false, false, false, false] (by kernel_rfl) rfl rfl ⟨cy_ BK511 0, cy_ BK511 1, cy_ BK511 2, cy_ BK511 3, cy_ BK511 4⟩ (fun hHeld => ?_); refine with_tabW midrangeref04_Undo.tab10 midrangeref04_Undo.bits10 (fun HT_ HW_ => ?_)
        generalize w35.drew = w39 at HO_523000 BK510 BK511 BK522 HB hHeld ⊢
        refine pu_ 0 41 HT_ ?_
        refine pu_ 1 42 HT_ ?_
        refine pu_ 3 44 HT_ ?_
        refine tk_ 2 43 HT_ HW_ hHeld rfl (Or.inl ⟨by rfl, by rintro w' ⟨s0, s1, s2, s3, s4⟩; go_simp; with_reducible rfl⟩) ?_
        refine one_ (i := 4) (N := some 45) #[true, true, true, true, true, false, false, false, false] rfl rfl (one_of HT_.out (by kernel_rfl)) (by decide) (fun K hK => ?_)
        refine goes_ Tryd.func20 (by kernel_rfl) rfl #[.string ((rd_T46 l0_0 t523).f1)] (by rfl) rfl rfl (by (try simp only [List.map_toArray, List.map_cons, List.map_nil]); first | done | rfl | (simp only [List.length_drop, List.length_take]; rfl)) ?_
        with_reducible refine (midrangeref04_Pages.calls ((rd_T46 l0_0 t523).f1) t525 _ A32.out).mono ?_
        rintro e w' ⟨rfl, ⟨nd, rfl⟩⟩
        refine ⟨_, rfl, ?_⟩
        refine hK.out _ _ ⟨cy_ BK511 0, cy_ BK511 1, cy_ BK511 2, cy_ BK511 3, cy_ BK511 4⟩ (fun hHeld => ?_)
        clear hK K
        refine nn_ 45 ?_
        refine pu_ 5 46 HT_ ?_
        refine one_ (i := 6) (N := some 47) #[true, true, true, true, true, true, true, false, false] rfl rfl (one_of HT_.out (by kernel_rfl)) (by decide) (fun K hK => ?_)
        refine value_ (w1 := ?_) (v := ?_) (by rfl) rfl ?_ ?_
        rotate_left 2
        ·
         go_simp
         constructor
         · rfl
         rfl
        refine hK.out _ _ ⟨(blk_cell (blk_alloc BK511.out _) 0).trans rfl, (blk_cell (blk_alloc BK511.out _) 1).trans rfl, (blk_cell (blk_alloc BK511.out _) 2).trans rfl, (blk_cell (blk_alloc BK511.out _) 3).trans rfl, (blk_cell (blk_alloc BK511.out _) 4).trans rfl⟩ (fun hHeld => ?_)
        clear hK K
        refine nn_ 47 ?_
        refine one_ (i := 7) (N := some 48) #[true, true, true, true, true, true, true, true, false] rfl rfl (one_of HT_.out (by kernel_rfl)) (by decide) (fun K hK => ?_)
        refine Kd.R_append_step k26 (w0 := w) w.heap.size (by rfl) (.tmp 41) (.tmp 47) 29 26 (.agg #[(.int .i64 0), (.int .i64 0), (.int .i64 0), (.int .i64 0), (.string ⟨#[]⟩)]) 48 rfl Tryd.underlying29 info26 rfl (by decide) (by omega) (.slice none 0 0) ([] : List (S26)) (⟨2, a1_1, 0, t525, (⟨#[]⟩ : ByteArray)⟩ : S26) [.int .i64 2, .int .i64 a1_1, .int .i64 0, .int .i64 t525, .string (⟨#[]⟩ : ByteArray)] (fun k_ => k_ ≠ gb511) (fun _ => False) rfl rfl ?aP (fun _ hk => hk.elim) ?aF ?aO ?aB ?aS ?aL ?_
        (case aP => exact k26_mkM _ _ _ (⟨2, a1_1, 0, t525, (⟨#[]⟩ : ByteArray)⟩ : S26))
        (case aB => exact (pb_ HB))
        (case aF => exact (fun k_ hk => Kd.freshB (g := gb511) (o := .cells #[.int .i64 a1_0, .int .i64 a1_1, .int .i64 a1_2, .int .i64 a1_3, .string a1_4] 26 (0, 0)) (pk_ BK511) k_ hk))
        (case aO => exact ((Kd.R_nil _ _ _ _ (fun k_ => k_ ≠ gb511))))
        (case aS => exact (below_size (pb_ HB)))
        (case aL => have := LMc33.out; omega)
        intro v527 w40 ho hb hg hat
        rw [← Ny526.out] at ho
        replace HO_523000 := Aside0.mk (Kd.R_grown (rk_ HO_523000) hg (fun _ _ => by simp [Value.ownBlock]))
        replace BK510 := Aside0.mk (blk_grown (g := gb510) (o := .cells #[.slice (some ad524) l0_0.length c0_0, .int .i64 a0_1] 24 (0, 0)) (pk_ BK510) hg (by simp [Value.ownBlock]))
        replace BK511 := Aside0.mk (blk_grown (g := gb511) (o := .cells #[.int .i64 a1_0, .int .i64 a1_1, .int .i64 a1_2, .int .i64 a1_3, .string a1_4] 26 (0, 0)) (pk_ BK511) hg (by simp [Value.ownBlock]))
        replace BK522 := Aside0.mk (blk_grown (g := gb522) (o := .cells #[.slice Ao16 t515.length co16, .int .i64 t518, .int .i64 t519, .string t520, .int .i64 t521] 51 (0, 0)) (pk_ BK522) hg (by simp [Value.ownBlock]))
        replace HB := Aside0.mk (hb)
        have HO528 := Aside0.mk (ho)
        clear ho hb hg hat
        refine hK.out _ _ ⟨cy_ BK511 0, cy_ BK511 1, cy_ BK511 2, cy_ BK511 3, cy_ BK511 4⟩ (fun hHeld => ?_)
        clear hK K
        refine nn_ 48 ?_
        refine pu_ 8 8 HT_ ?_
        refine done_ (done_of HT_.out (by kernel_rfl)) ?_
        try go_wp2
        go_ret2
        exact ⟨_, er_, by (with_reducible repeat (first | apply Kd.R_alloc | apply Kd.R_drewN | apply Kd.R_drew)); exact Kd.R_mono HO528.out (fun _ hk => trivial), pb_ HB⟩
       rw [if_neg c33] at H
       exact absurd H (by simp)
      rw [if_neg c31] at H
      have c31b0 : (a1_0 == 1) = false := beq_eq_false_iff_ne.mpr c31
      have c31b1 : (a1_0 != 1) = true := bne_iff_ne.mpr c31
      by_cases c41 : a1_0 = 2
      ·
       rw [if_pos c41] at H
       have c41b0 : (a1_0 == 2) = true := beq_iff_eq.mpr c41
       have c41b1 : (a1_0 != 2) = false := bne_eq_false_iff_eq.mpr c41
       clear c41
       obtain ⟨ji42, hji42⟩ : ∃ j_ : Int, (wrap64 (a1_3 * 32)) = j_ := ⟨_, rfl⟩
       replace H : (if 0 ≤ (ji42) then (if (ji42) ≤ (((rd_T46 l0_0 t523).f1).size : Int) then (if (((rd_T46 l0_0 t523).f1).extract ((ji42) : Int).toNat ((rd_T46 l0_0 t523).f1).size).toList = ([] : List UInt8) then ((midrangeref04_Zeros.f kj4 ((((rd_T46 l0_0 t523).f1).size - ((ji42) : Int).toNat : Nat) : Int)).bind fun t529 => (if (((rd_T46 l0_0 t523).f1).extract ((ji42) : Int).toNat ((rd_T46 l0_0 t523).f1).size).toList = t529.toList then (some (([] : List (S26)), 0)) else (if ([] : List (S26)).length < 2932031007402 then (some ((([] : List (S26)) ++ [(⟨4, a1_1, ji42, 0, ((rd_T46 l0_0 t523).f1).extract ((ji42) : Int).toNat ((rd_T46 l0_0 t523).f1).size⟩ : S26)]), 0)) else (none)))) else ((midrangeref04_Pages.f (((rd_T46 l0_0 t523).f1).extract ((ji42) : Int).toNat ((rd_T46 l0_0 t523).f1).size)).bind fun t533 => (if ([] : List (S26)).length < 2932031007402 then ((some (([] : List (S26)) ++ [(⟨1, a1_1, 0, t533, (⟨#[]⟩ : ByteArray)⟩ : S26)] : List (S26))).bind fun y534 => ((midrangeref04_Zeros.f kj4 ((((rd_T46 l0_0 t523).f1).size - ((ji42) : Int).toNat : Nat) : Int)).bind fun t537 => (if (((rd_T46 l0_0 t523).f1).extract ((ji42) : Int).toNat ((rd_T46 l0_0 t523).f1).size).toList = t537.toList then (some (y534, 0)) else (if y534.length < 2932031007402 then (some ((y534 ++ [(⟨4, a1_1, ji42, 0, ((rd_T46 l0_0 t523).f1).extract ((ji42) : Int).toNat ((rd_T46 l0_0 t523).f1).size⟩ : S26)]), 0)) else (none))))) else (none)))) else (none)) else (none)) = some (r1, r2) := by first | (rw [hji42] at H; exact H) | (simp only [hji42] at H ⊢; exact H)
       (try rw [hji42] at A28)
       have hji42w : (IntKind.i64.wrap (a1_3 * 32)) = ji42 := (i64_w _).trans hji42
       by_cases c43 : 0 ≤ (ji42)
       ·
        rw [if_pos c43] at H
        have c43b0 := eq_true c43
        have c43b1 : decide (0 ≤ (ji42)) = true := decide_eq_true c43
        clear c43
        by_cases c44 : (ji42) ≤ (((rd_T46 l0_0 t523).f1).size : Int)
        ·
         rw [if_pos c44] at H
         have c44b0 := eq_true c44
         have c44b1 : decide ((ji42) ≤ (((rd_T46 l0_0 t523).f1).size : Int)) = true := decide_eq_true c44
         clear c44
         by_cases c45 : (((rd_T46 l0_0 t523).f1).extract ((ji42) : Int).toNat ((rd_T46 l0_0 t523).f1).size).toList = ([] : List UInt8)
         ·
          rw [if_pos c45] at H
          have c45b0 : ((((rd_T46 l0_0 t523).f1).extract ((ji42) : Int).toNat ((rd_T46 l0_0 t523).f1).size).toList == ([] : List UInt8)) = true := beq_iff_eq.mpr c45
          have c45b1 : ((((rd_T46 l0_0 t523).f1).extract ((ji42) : Int).toNat ((rd_T46 l0_0 t523).f1).size).toList != ([] : List UInt8)) = false := bne_eq_false_iff_eq.mpr c45
          clear c45
          replace H := Option.bind_eq_some_iff.mp H
          obtain ⟨t529, A460, H⟩ := H
          replace H : (if (((rd_T46 l0_0 t523).f1).extract ((ji42) : Int).toNat ((rd_T46 l0_0 t523).f1).size).toList = t529.toList then (some (([] : List (S26)), 0)) else (if ([] : List (S26)).length < 2932031007402 then (some ((([] : List (S26)) ++ [(⟨4, a1_1, ji42, 0, ((rd_T46 l0_0 t523).f1).extract ((ji42) : Int).toNat ((rd_T46 l0_0 t523).f1).size⟩ : S26)]), 0)) else (none))) = some (r1, r2) := H
          have A46 := Aside0.mk A460
          clear A460
          by_cases c47 : (((rd_T46 l0_0 t523).f1).extract ((ji42) : Int).toNat ((rd_T46 l0_0 t523).f1).size).toList = t529.toList
          ·
           rw [if_pos c47] at H
           have c47b0 : ((((rd_T46 l0_0 t523).f1).extract ((ji42) : Int).toNat ((rd_T46 l0_0 t523).f1).size).toList == t529.toList) = true := beq_iff_eq.mpr c47
           have c47b1 : ((((rd_T46 l0_0 t523).f1).extract ((ji42) : Int).toNat ((rd_T46 l0_0 t523).f1).size).toList != t529.toList) = false := bne_eq_false_iff_eq.mpr c47
           clear c47
           simp only [Option.some.injEq, Prod.mk.injEq] at H
           obtain ⟨rfl, rfl⟩ := H
           try go_wp2
           replace HO_523000 := rd_ HO_523000
           replace BK510 := Aside0.mk (blk_drew BK510.out)
           replace BK511 := Aside0.mk (blk_drew BK511.out)
           replace BK522 := Aside0.mk (blk_drew BK522.out)
           replace HB := Aside0.mk (below_drew1 HB.out)
           have p524 : 0 ≤ (t523 : Int) := ct_
           have q524 : t523 < (l0_0.length : Int) := ct_
           obtain ⟨ad524, e524, hx524_0, hx524_1⟩ := at_T46 HR0_0.out t523 p524 q524
           have hw524_1 := hx524_1
           have hw524_0 := hx524_0
           cases e524
           replace hx524_0 := pw_cell_below HB.out hx524_0
           replace hx524_1 := pw_cell_below HB.out hx524_1
           replace p524 := eq_true p524
           replace q524 := eq_true q524
           refine start_ (n := 10) (S := fun w' => w'.cell? ⟨gb510, 0, none⟩ = some (.slice (some ad524) l0_0.length c0_0) ∧ w'.cell? ⟨gb510, 1, none⟩ = some (.int .i64 a0_1) ∧ w'.cell? ⟨gb511, 0, none⟩ = some (.int .i64 a1_0) ∧ w'.cell? ⟨gb511, 1, none⟩ = some (.int .i64 a1_1) ∧ w'.cell? ⟨gb511, 2, none⟩ = some (.int .i64 a1_2) ∧ w'.cell? ⟨gb511, 3, none⟩ = some (.int .i64 a1_3) ∧ w'.cell? ⟨gb511, 4, none⟩ = some (.string a1_4) ∧ w'.cell? (ad524.add ((t523).toNat * 2)) = some (.int .i64 ((rd_T46 l0_0 t523).f0)) ∧ w'.cell? ⟨(ad524.add ((t523).toNat * 2)).block, (ad524.add ((t523).toNat * 2)).off + 1, none⟩ = some (.string ((rd_T46 l0_0 t523).f1))) (ds := []) #[false, false, false, false, false, false, false, false, false, false] (by kernel_rfl) rfl rfl ⟨cy_ BK510 0, cy_ BK510 1, cy_ BK511 0, cy_ BK511 1, cy_ BK511 2, cy_ BK511 3, cy_ BK511 4, (pw_cell_below HB.out hw524_0), (pw_cell_below HB.out hw524_1)⟩ (fun hHeld => ?_); refine with_tabW midrangeref04_Undo.tab6 midrangeref04_Undo.bits6 (fun HT_ HW_ => ?_)
           generalize wc.drew = w48 at HO_523000 BK510 BK511 BK522 HB hx524_0 hx524_1 hHeld ⊢
           refine pu_ 0 28 HT_ ?_
           refine pu_ 3 31 HT_ ?_
           refine tk_ 1 29 HT_ HW_ hHeld rfl (Or.inl ⟨by rfl, by rintro w' ⟨s0, s1, s2, s3, s4, s5, s6, s7, s8⟩; go_simp; with_reducible rfl⟩) ?_
           refine tk_ 2 30 HT_ HW_ hHeld rfl (Or.inl ⟨by rfl, by rintro w' ⟨s0, s1, s2, s3, s4, s5, s6, s7, s8⟩; go_simp; with_reducible rfl⟩) ?_
           refine tk_ 4 32 HT_ HW_ hHeld rfl (Or.inl ⟨by rfl, by rintro w' ⟨s0, s1, s2, s3, s4, s5, s6, s7, s8⟩; go_simp; with_reducible rfl⟩) ?_
           refine one_ (i := 5) (N := some 33) #[true, true, true, true, true, true, false, false, false, false] rfl rfl (one_of HT_.out (by kernel_rfl)) (by decide) (fun K hK => ?_)
           refine goes_ Tryd.func19 (by kernel_rfl) rfl #[.agg #[.slice (some ad524) l0_0.length c0_0, .int .i64 a0_1], .int .i64 a1_1] (by rfl) rfl rfl (by (try simp only [List.map_toArray, List.map_cons, List.map_nil]); first | done | rfl | (simp only [List.length_drop, List.length_take]; rfl)) ?_
           with_reducible refine (midrangeref04_Place.calls kj4 _ _ l0_0 a0_1 a1_1 t523 _ ?side1 ?side2 A28.out).mono ?_
           (case side1 => exact pc_ (Kd.C_below HR0_0.out HB.out))
           (case side2 => exact HC0_0.out)
           rintro e w49 ⟨rfl, hb⟩
           refine ⟨_, rfl, ?_⟩
           replace HO_523000 := Aside0.mk (Kd.R_below (rk_ HO_523000) hb)
           replace BK510 := kb_ BK510 hb
           replace BK511 := kb_ BK511 hb
           replace BK522 := kb_ BK522 hb
           replace HB := sb_ HB hb
           (try clear hb)
           (try clear hb2)
           (try clear hk)
           (try clear hi)
           refine hK.out _ _ ⟨cy_ BK510 0, cy_ BK510 1, cy_ BK511 0, cy_ BK511 1, cy_ BK511 2, cy_ BK511 3, cy_ BK511 4, (pw_cell_below HB.out hw524_0), (pw_cell_below HB.out hw524_1)⟩ (fun hHeld => ?_)
           clear hK K
           refine nn_ 33 ?_
           refine pu_ 6 34 HT_ ?_
           refine pu_ 7 35 HT_ ?_
           refine tk_ 8 36 HT_ HW_ hHeld rfl (Or.inl ⟨by rfl, by rintro w' ⟨s0, s1, s2, s3, s4, s5, s6, s7, s8⟩; go_simp; with_reducible rfl⟩) ?_
           refine pu_ 9 7 HT_ ?_
           refine done_ (done_of HT_.out (by kernel_rfl)) ?_
           have hnb50 := NB511_510.out
           have hnc50 := NB510_511.out
           have hnb51 := NB511_522.out
           have hnc51 := NB522_511.out
           have hcz52_0 := cz_ BK511 0 (.int .i64 a1_0)
           have hcz52_1 := cz_ BK511 1 (.int .i64 a1_1)
           have hcz52_2 := cz_ BK511 2 (.int .i64 a1_2)
           have hcz52_3 := cz_ BK511 3 (.int .i64 a1_3)
           have hcz52_4 := cz_ BK511 4 (.string a1_4)
           have hfz52_0 := blk_frozen BK511.out 0
           have hfz52_1 := blk_frozen BK511.out 1
           have hfz52_2 := blk_frozen BK511.out 2
           have hfz52_3 := blk_frozen BK511.out 3
           have hfz52_4 := blk_frozen BK511.out 4
           try go_wp2_with (first | ((with_reducible refine gate_callee (f := 21) rfl ?_); refine goesL_ (some 69) rfl rfl Tryd.func21 (by kernel_rfl) rfl #[.int .i64 ((((rd_T46 l0_0 t523).f1).size - ((ji42) : Int).toNat : Nat) : Int)] rfl (by (try simp only [List.map_toArray, List.map_cons, List.map_nil]); first | done | (simp only [hji42]; rfl) | rfl | (simp only [List.length_drop, List.length_take]; rfl)) ?_; (with_reducible refine (midrangeref04_Zeros.calls kj4 ((((rd_T46 l0_0 t523).f1).size - ((ji42) : Int).toNat : Nat) : Int) t529 _ A46.out).mono ?_); rintro e w53 ⟨rfl, hb⟩; refine ⟨_, rfl, ?_⟩; replace HO_523000 := Aside0.mk (Kd.R_below (rk_ HO_523000) hb); replace BK510 := kb_ BK510 hb; replace BK511 := kb_ BK511 hb; replace BK522 := kb_ BK522 hb; replace HB := sb_ HB hb; (try clear hb); (try clear hb2); (try clear hk); (try clear hi)))
           go_ret2
           exact ⟨_, by first | rfl | (simp [errW_none, errW_some] <;> rfl) | (simp only [← hji42]; first | rfl | (simp [errW_none, errW_some] <;> rfl)) | (simp [*, errW_none, errW_some] <;> rfl), by first | exact Kd.R_nil _ _ _ _ _ | exact Kd.N_nil _ _ _ _ _ | exact Kd.V_nil _ _ _ _ _ | exact Kd.Q_nil _ _ _ _ _ | exact Kd.S_nil _ _ _ _ _, pb_ HB⟩
          rw [if_neg c47] at H
          have c47b0 : ((((rd_T46 l0_0 t523).f1).extract ((ji42) : Int).toNat ((rd_T46 l0_0 t523).f1).size).toList == t529.toList) = false := beq_eq_false_iff_ne.mpr c47
          have c47b1 : ((((rd_T46 l0_0 t523).f1).extract ((ji42) : Int).toNat ((rd_T46 l0_0 t523).f1).size).toList != t529.toList) = true := bne_iff_ne.mpr c47
          by_cases c54 : ([] : List (S26)).length < 2932031007402
          ·
           rw [if_pos c54] at H
           have LMc54 := Aside0.mk c54
           clear c54
           obtain ⟨y530, hy530⟩ : ∃ y_ : List (S26), y_ = (([] : List (S26)) ++ [(⟨4, a1_1, ji42, 0, ((rd_T46 l0_0 t523).f1).extract ((ji42) : Int).toNat ((rd_T46 l0_0 t523).f1).size⟩ : S26)]) := ⟨_, rfl⟩
           replace H : (some (y530, 0)) = some (r1, r2) := by first | (rw [hy530]; with_reducible exact H) | (have H2_ := (Option.bind_some _ _).symm.trans H; rw [hy530]; with_reducible exact H2_) | (have H2_ := (Option.bind_some _ _).symm.trans H; with_reducible exact H2_) | with_reducible exact H | (rw [hy530]; exact H) | exact H
           have Ny530 := Aside0.mk hy530
           clear hy530
           simp only [Option.some.injEq, Prod.mk.injEq] at H
           obtain ⟨rfl, rfl⟩ := H
           try go_wp2
           replace HO_523000 := rd_ HO_523000
           replace BK510 := Aside0.mk (blk_drew BK510.out)
           replace BK511 := Aside0.mk (blk_drew BK511.out)
           replace BK522 := Aside0.mk (blk_drew BK522.out)
           replace HB := Aside0.mk (below_drew1 HB.out)
           have p524 : 0 ≤ (t523 : Int) := ct_
           have q524 : t523 < (l0_0.length : Int) := ct_
           obtain ⟨ad524, e524, hx524_0, hx524_1⟩ := at_T46 HR0_0.out t523 p524 q524
           have hw524_1 := hx524_1
           have hw524_0 := hx524_0
           cases e524
           replace hx524_0 := pw_cell_below HB.out hx524_0
           replace hx524_1 := pw_cell_below HB.out hx524_1
           replace p524 := eq_true p524
           replace q524 := eq_true q524
           refine start_ (n := 10) (S := fun w' => w'.cell? ⟨gb510, 0, none⟩ = some (.slice (some ad524) l0_0.length c0_0) ∧ w'.cell? ⟨gb510, 1, none⟩ = some (.int .i64 a0_1) ∧ w'.cell? ⟨gb511, 0, none⟩ = some (.int .i64 a1_0) ∧ w'.cell? ⟨gb511, 1, none⟩ = some (.int .i64 a1_1) ∧ w'.cell? ⟨gb511, 2, none⟩ = some (.int .i64 a1_2) ∧ w'.cell? ⟨gb511, 3, none⟩ = some (.int .i64 a1_3) ∧ w'.cell? ⟨gb511, 4, none⟩ = some (.string a1_4) ∧ w'.cell? (ad524.add ((t523).toNat * 2)) = some (.int .i64 ((rd_T46 l0_0 t523).f0)) ∧ w'.cell? ⟨(ad524.add ((t523).toNat * 2)).block, (ad524.add ((t523).toNat * 2)).off + 1, none⟩ = some (.string ((rd_T46 l0_0 t523).f1))) (ds := []) #[false, false, false, false, false, false, false, false, false, false] (by kernel_rfl) rfl rfl ⟨cy_ BK510 0, cy_ BK510 1, cy_ BK511 0, cy_ BK511 1, cy_ BK511 2, cy_ BK511 3, cy_ BK511 4, (pw_cell_below HB.out hw524_0), (pw_cell_below HB.out hw524_1)⟩ (fun hHeld => ?_); refine with_tabW midrangeref04_Undo.tab6 midrangeref04_Undo.bits6 (fun HT_ HW_ => ?_)
           generalize wc.drew = w55 at HO_523000 BK510 BK511 BK522 HB hx524_0 hx524_1 hHeld ⊢
           refine pu_ 0 28 HT_ ?_
           refine pu_ 3 31 HT_ ?_
           refine tk_ 1 29 HT_ HW_ hHeld rfl (Or.inl ⟨by rfl, by rintro w' ⟨s0, s1, s2, s3, s4, s5, s6, s7, s8⟩; go_simp; with_reducible rfl⟩) ?_
           refine tk_ 2 30 HT_ HW_ hHeld rfl (Or.inl ⟨by rfl, by rintro w' ⟨s0, s1, s2, s3, s4, s5, s6, s7, s8⟩; go_simp; with_reducible rfl⟩) ?_
           refine tk_ 4 32 HT_ HW_ hHeld rfl (Or.inl ⟨by rfl, by rintro w' ⟨s0, s1, s2, s3, s4, s5, s6, s7, s8⟩; go_simp; with_reducible rfl⟩) ?_
           refine one_ (i := 5) (N := some 33) #[true, true, true, true, true, true, false, false, false, false] rfl rfl (one_of HT_.out (by kernel_rfl)) (by decide) (fun K hK => ?_)
           refine goes_ Tryd.func19 (by kernel_rfl) rfl #[.agg #[.slice (some ad524) l0_0.length c0_0, .int .i64 a0_1], .int .i64 a1_1] (by rfl) rfl rfl (by (try simp only [List.map_toArray, List.map_cons, List.map_nil]); first | done | rfl | (simp only [List.length_drop, List.length_take]; rfl)) ?_
           with_reducible refine (midrangeref04_Place.calls kj4 _ _ l0_0 a0_1 a1_1 t523 _ ?side1 ?side2 A28.out).mono ?_
           (case side1 => exact pc_ (Kd.C_below HR0_0.out HB.out))
           (case side2 => exact HC0_0.out)
           rintro e w56 ⟨rfl, hb⟩
           refine ⟨_, rfl, ?_⟩
           replace HO_523000 := Aside0.mk (Kd.R_below (rk_ HO_523000) hb)
           replace BK510 := kb_ BK510 hb
           replace BK511 := kb_ BK511 hb
           replace BK522 := kb_ BK522 hb
           replace HB := sb_ HB hb
           (try clear hb)
           (try clear hb2)
           (try clear hk)
           (try clear hi)
           refine hK.out _ _ ⟨cy_ BK510 0, cy_ BK510 1, cy_ BK511 0, cy_ BK511 1, cy_ BK511 2, cy_ BK511 3, cy_ BK511 4, (pw_cell_below HB.out hw524_0), (pw_cell_below HB.out hw524_1)⟩ (fun hHeld => ?_)
           clear hK K
           refine nn_ 33 ?_
           refine pu_ 6 34 HT_ ?_
           refine pu_ 7 35 HT_ ?_
           refine tk_ 8 36 HT_ HW_ hHeld rfl (Or.inl ⟨by rfl, by rintro w' ⟨s0, s1, s2, s3, s4, s5, s6, s7, s8⟩; go_simp; with_reducible rfl⟩) ?_
           refine pu_ 9 7 HT_ ?_
           refine done_ (done_of HT_.out (by kernel_rfl)) ?_
           have hnb57 := NB511_510.out
           have hnc57 := NB510_511.out
           have hnb58 := NB511_522.out
           have hnc58 := NB522_511.out
           have hcz59_0 := cz_ BK511 0 (.int .i64 a1_0)
           have hcz59_1 := cz_ BK511 1 (.int .i64 a1_1)
           have hcz59_2 := cz_ BK511 2 (.int .i64 a1_2)
           have hcz59_3 := cz_ BK511 3 (.int .i64 a1_3)
           have hcz59_4 := cz_ BK511 4 (.string a1_4)
           have hfz59_0 := blk_frozen BK511.out 0
           have hfz59_1 := blk_frozen BK511.out 1
           have hfz59_2 := blk_frozen BK511.out 2
           have hfz59_3 := blk_frozen BK511.out 3
           have hfz59_4 := blk_frozen BK511.out 4
           try go_wp2_with (first | ((with_reducible refine gate_callee (f := 21) rfl ?_); refine goesL_ (some 69) rfl rfl Tryd.func21 (by kernel_rfl) rfl #[.int .i64 ((((rd_T46 l0_0 t523).f1).size - ((ji42) : Int).toNat : Nat) : Int)] rfl (by (try simp only [List.map_toArray, List.map_cons, List.map_nil]); first | done | (simp only [hji42]; rfl) | rfl | (simp only [List.length_drop, List.length_take]; rfl)) ?_; (with_reducible refine (midrangeref04_Zeros.calls kj4 ((((rd_T46 l0_0 t523).f1).size - ((ji42) : Int).toNat : Nat) : Int) t529 _ A46.out).mono ?_); rintro e w60 ⟨rfl, hb⟩; refine ⟨_, rfl, ?_⟩; replace HO_523000 := Aside0.mk (Kd.R_below (rk_ HO_523000) hb); replace BK510 := kb_ BK510 hb; replace BK511 := kb_ BK511 hb; replace BK522 := kb_ BK522 hb; replace HB := sb_ HB hb; (try clear hb); (try clear hb2); (try clear hk); (try clear hi); have hcz61_0 := cz_ BK511 0 (.int .i64 a1_0); have hcz61_1 := cz_ BK511 1 (.int .i64 a1_1); have hcz61_2 := cz_ BK511 2 (.int .i64 a1_2); have hcz61_3 := cz_ BK511 3 (.int .i64 a1_3); have hcz61_4 := cz_ BK511 4 (.string a1_4); have hfz61_0 := blk_frozen BK511.out 0; have hfz61_1 := blk_frozen BK511.out 1; have hfz61_2 := blk_frozen BK511.out 2; have hfz61_3 := blk_frozen BK511.out 3; have hfz61_4 := blk_frozen BK511.out 4) | ((with_reducible refine gate_builtin (b := .append) (xs := #[.tmp 71, .tmp 79]) rfl ?_); at_builtin; refine Kd.R_append k26 (w0 := w) w.heap.size rfl (.tmp 71) (.tmp 79) 29 26 (.agg #[(.int .i64 0), (.int .i64 0), (.int .i64 0), (.int .i64 0), (.string ⟨#[]⟩)]) 48 rfl Tryd.underlying29 info26 rfl (by decide) (by omega) (.slice none 0 0) ([] : List (S26)) (⟨4, a1_1, ji42, 0, ((rd_T46 l0_0 t523).f1).extract ((ji42) : Int).toNat ((rd_T46 l0_0 t523).f1).size⟩ : S26) [.int .i64 4, .int .i64 a1_1, .int .i64 ji42, .int .i64 0, .string (((rd_T46 l0_0 t523).f1).extract ((ji42) : Int).toNat ((rd_T46 l0_0 t523).f1).size)] (fun k_ => k_ ≠ gb511) (fun _ => False) rfl rfl ?aP (fun _ hk => hk.elim) ?aF ?aO ?aB ?aS ?aL ?_; (case aP => exact k26_mkM _ _ _ (⟨4, a1_1, ji42, 0, ((rd_T46 l0_0 t523).f1).extract ((ji42) : Int).toNat ((rd_T46 l0_0 t523).f1).size⟩ : S26)); (case aB => exact (pb_ HB)); (case aF => exact (fun k_ hk => Kd.freshB (g := gb511) (o := .cells #[.int .i64 a1_0, .int .i64 a1_1, .int .i64 a1_2, .int .i64 a1_3, .string a1_4] 26 (0, 0)) (pk_ BK511) k_ hk)); (case aO => exact ((Kd.R_nil _ _ _ _ (fun k_ => k_ ≠ gb511)))); (case aS => exact (below_size (pb_ HB))); (case aL => have := LMc54.out; omega); intro v531 w62 ho hb hg hat; rw [← Ny530.out] at ho; replace HO_523000 := Aside0.mk (Kd.R_grown (rk_ HO_523000) hg (fun _ _ => by simp [Value.ownBlock])); replace BK510 := Aside0.mk (blk_grown (g := gb510) (o := .cells #[.slice (some ad524) l0_0.length c0_0, .int .i64 a0_1] 24 (0, 0)) (pk_ BK510) hg (by simp [Value.ownBlock])); replace BK511 := Aside0.mk (blk_grown (g := gb511) (o := .cells #[.int .i64 a1_0, .int .i64 a1_1, .int .i64 a1_2, .int .i64 a1_3, .string a1_4] 26 (0, 0)) (pk_ BK511) hg (by simp [Value.ownBlock])); replace BK522 := Aside0.mk (blk_grown (g := gb522) (o := .cells #[.slice Ao16 t515.length co16, .int .i64 t518, .int .i64 t519, .string t520, .int .i64 t521] 51 (0, 0)) (pk_ BK522) hg (by simp [Value.ownBlock])); replace HB := Aside0.mk (hb); have HO532 := Aside0.mk (ho); clear ho hb hg hat))
           go_ret2
           exact ⟨_, by first | rfl | (simp [errW_none, errW_some] <;> rfl) | (simp only [← hji42]; first | rfl | (simp [errW_none, errW_some] <;> rfl)) | (simp [*, errW_none, errW_some] <;> rfl), by (with_reducible repeat (first | apply Kd.R_alloc | apply Kd.R_drewN | apply Kd.R_drew)); exact Kd.R_mono HO532.out (fun _ hk => trivial), pb_ HB⟩
          rw [if_neg c54] at H
          exact absurd H (by simp)
         rw [if_neg c45] at H
         have c45b0 : ((((rd_T46 l0_0 t523).f1).extract ((ji42) : Int).toNat ((rd_T46 l0_0 t523).f1).size).toList == ([] : List UInt8)) = false := beq_eq_false_iff_ne.mpr c45
         have c45b1 : ((((rd_T46 l0_0 t523).f1).extract ((ji42) : Int).toNat ((rd_T46 l0_0 t523).f1).size).toList != ([] : List UInt8)) = true := bne_iff_ne.mpr c45
         replace H := Option.bind_eq_some_iff.mp H
         obtain ⟨t533, A630, H⟩ := H
         replace H : (if ([] : List (S26)).length < 2932031007402 then ((some (([] : List (S26)) ++ [(⟨1, a1_1, 0, t533, (⟨#[]⟩ : ByteArray)⟩ : S26)] : List (S26))).bind fun y534 => ((midrangeref04_Zeros.f kj4 ((((rd_T46 l0_0 t523).f1).size - ((ji42) : Int).toNat : Nat) : Int)).bind fun t537 => (if (((rd_T46 l0_0 t523).f1).extract ((ji42) : Int).toNat ((rd_T46 l0_0 t523).f1).size).toList = t537.toList then (some (y534, 0)) else (if y534.length < 2932031007402 then (some ((y534 ++ [(⟨4, a1_1, ji42, 0, ((rd_T46 l0_0 t523).f1).extract ((ji42) : Int).toNat ((rd_T46 l0_0 t523).f1).size⟩ : S26)]), 0)) else (none))))) else (none)) = some (r1, r2) := H
         have A63 := Aside0.mk A630
         clear A630
         by_cases c64 : ([] : List (S26)).length < 2932031007402
         ·
          rw [if_pos c64] at H
          have LMc64 := Aside0.mk c64
          clear c64
          obtain ⟨y534, hy534⟩ : ∃ y_ : List (S26), y_ = (([] : List (S26)) ++ [(⟨1, a1_1, 0, t533, (⟨#[]⟩ : ByteArray)⟩ : S26)]) := ⟨_, rfl⟩
          replace H : ((midrangeref04_Zeros.f kj4 ((((rd_T46 l0_0 t523).f1).size - ((ji42) : Int).toNat : Nat) : Int)).bind fun t537 => (if (((rd_T46 l0_0 t523).f1).extract ((ji42) : Int).toNat ((rd_T46 l0_0 t523).f1).size).toList = t537.toList then (some (y534, 0)) else (if y534.length < 2932031007402 then (some ((y534 ++ [(⟨4, a1_1, ji42, 0, ((rd_T46 l0_0 t523).f1).extract ((ji42) : Int).toNat ((rd_T46 l0_0 t523).f1).size⟩ : S26)]), 0)) else (none)))) = some (r1, r2) := by first | (rw [hy534]; with_reducible exact H) | (have H2_ := (Option.bind_some _ _).symm.trans H; rw [hy534]; with_reducible exact H2_) | (have H2_ := (Option.bind_some _ _).symm.trans H; with_reducible exact H2_) | with_reducible exact H | (rw [hy534]; exact H) | exact H
          have Ny534 := Aside0.mk hy534
          clear hy534
          replace H := Option.bind_eq_some_iff.mp H
          obtain ⟨t537, A650, H⟩ := H
          replace H : (if (((rd_T46 l0_0 t523).f1).extract ((ji42) : Int).toNat ((rd_T46 l0_0 t523).f1).size).toList = t537.toList then (some (y534, 0)) else (if y534.length < 2932031007402 then (some ((y534 ++ [(⟨4, a1_1, ji42, 0, ((rd_T46 l0_0 t523).f1).extract ((ji42) : Int).toNat ((rd_T46 l0_0 t523).f1).size⟩ : S26)]), 0)) else (none))) = some (r1, r2) := H
          have A65 := Aside0.mk A650
          clear A650
          by_cases c66 : (((rd_T46 l0_0 t523).f1).extract ((ji42) : Int).toNat ((rd_T46 l0_0 t523).f1).size).toList = t537.toList
          ·
           rw [if_pos c66] at H
           have c66b0 : ((((rd_T46 l0_0 t523).f1).extract ((ji42) : Int).toNat ((rd_T46 l0_0 t523).f1).size).toList == t537.toList) = true := beq_iff_eq.mpr c66
           have c66b1 : ((((rd_T46 l0_0 t523).f1).extract ((ji42) : Int).toNat ((rd_T46 l0_0 t523).f1).size).toList != t537.toList) = false := bne_eq_false_iff_eq.mpr c66
           clear c66
           simp only [Option.some.injEq, Prod.mk.injEq] at H
           obtain ⟨rfl, rfl⟩ := H
           try go_wp2
           replace HO_523000 := rd_ HO_523000
           replace BK510 := Aside0.mk (blk_drew BK510.out)
           replace BK511 := Aside0.mk (blk_drew BK511.out)
           replace BK522 := Aside0.mk (blk_drew BK522.out)
           replace HB := Aside0.mk (below_drew1 HB.out)
           have p524 : 0 ≤ (t523 : Int) := ct_
           have q524 : t523 < (l0_0.length : Int) := ct_
           obtain ⟨ad524, e524, hx524_0, hx524_1⟩ := at_T46 HR0_0.out t523 p524 q524
           have hw524_1 := hx524_1
           have hw524_0 := hx524_0
           cases e524
           replace hx524_0 := pw_cell_below HB.out hx524_0
           replace hx524_1 := pw_cell_below HB.out hx524_1
           replace p524 := eq_true p524
           replace q524 := eq_true q524
           refine start_ (n := 10) (S := fun w' => w'.cell? ⟨gb510, 0, none⟩ = some (.slice (some ad524) l0_0.length c0_0) ∧ w'.cell? ⟨gb510, 1, none⟩ = some (.int .i64 a0_1) ∧ w'.cell? ⟨gb511, 0, none⟩ = some (.int .i64 a1_0) ∧ w'.cell? ⟨gb511, 1, none⟩ = some (.int .i64 a1_1) ∧ w'.cell? ⟨gb511, 2, none⟩ = some (.int .i64 a1_2) ∧ w'.cell? ⟨gb511, 3, none⟩ = some (.int .i64 a1_3) ∧ w'.cell? ⟨gb511, 4, none⟩ = some (.string a1_4) ∧ w'.cell? (ad524.add ((t523).toNat * 2)) = some (.int .i64 ((rd_T46 l0_0 t523).f0)) ∧ w'.cell? ⟨(ad524.add ((t523).toNat * 2)).block, (ad524.add ((t523).toNat * 2)).off + 1, none⟩ = some (.string ((rd_T46 l0_0 t523).f1))) (ds := []) #[false, false, false, false, false, false, false, false, false, false] (by kernel_rfl) rfl rfl ⟨cy_ BK510 0, cy_ BK510 1, cy_ BK511 0, cy_ BK511 1, cy_ BK511 2, cy_ BK511 3, cy_ BK511 4, (pw_cell_below HB.out hw524_0), (pw_cell_below HB.out hw524_1)⟩ (fun hHeld => ?_); refine with_tabW midrangeref04_Undo.tab6 midrangeref04_Undo.bits6 (fun HT_ HW_ => ?_)
           generalize wc.drew = w67 at HO_523000 BK510 BK511 BK522 HB hx524_0 hx524_1 hHeld ⊢
           refine pu_ 0 28 HT_ ?_
           refine pu_ 3 31 HT_ ?_
           refine tk_ 1 29 HT_ HW_ hHeld rfl (Or.inl ⟨by rfl, by rintro w' ⟨s0, s1, s2, s3, s4, s5, s6, s7, s8⟩; go_simp; with_reducible rfl⟩) ?_
           refine tk_ 2 30 HT_ HW_ hHeld rfl (Or.inl ⟨by rfl, by rintro w' ⟨s0, s1, s2, s3, s4, s5, s6, s7, s8⟩; go_simp; with_reducible rfl⟩) ?_
           refine tk_ 4 32 HT_ HW_ hHeld rfl (Or.inl ⟨by rfl, by rintro w' ⟨s0, s1, s2, s3, s4, s5, s6, s7, s8⟩; go_simp; with_reducible rfl⟩) ?_
           refine one_ (i := 5) (N := some 33) #[true, true, true, true, true, true, false, false, false, false] rfl rfl (one_of HT_.out (by kernel_rfl)) (by decide) (fun K hK => ?_)
           refine goes_ Tryd.func19 (by kernel_rfl) rfl #[.agg #[.slice (some ad524) l0_0.length c0_0, .int .i64 a0_1], .int .i64 a1_1] (by rfl) rfl rfl (by (try simp only [List.map_toArray, List.map_cons, List.map_nil]); first | done | rfl | (simp only [List.length_drop, List.length_take]; rfl)) ?_
           with_reducible refine (midrangeref04_Place.calls kj4 _ _ l0_0 a0_1 a1_1 t523 _ ?side1 ?side2 A28.out).mono ?_
           (case side1 => exact pc_ (Kd.C_below HR0_0.out HB.out))
           (case side2 => exact HC0_0.out)
           rintro e w68 ⟨rfl, hb⟩
           refine ⟨_, rfl, ?_⟩
           replace HO_523000 := Aside0.mk (Kd.R_below (rk_ HO_523000) hb)
           replace BK510 := kb_ BK510 hb
           replace BK511 := kb_ BK511 hb
           replace BK522 := kb_ BK522 hb
           replace HB := sb_ HB hb
           (try clear hb)
           (try clear hb2)
           (try clear hk)
           (try clear hi)
           refine hK.out _ _ ⟨cy_ BK510 0, cy_ BK510 1, cy_ BK511 0, cy_ BK511 1, cy_ BK511 2, cy_ BK511 3, cy_ BK511 4, (pw_cell_below HB.out hw524_0), (pw_cell_below HB.out hw524_1)⟩ (fun hHeld => ?_)
           clear hK K
           refine nn_ 33 ?_
           refine pu_ 6 34 HT_ ?_
           refine pu_ 7 35 HT_ ?_
           refine tk_ 8 36 HT_ HW_ hHeld rfl (Or.inl ⟨by rfl, by rintro w' ⟨s0, s1, s2, s3, s4, s5, s6, s7, s8⟩; go_simp; with_reducible rfl⟩) ?_
           refine pu_ 9 7 HT_ ?_
           refine done_ (done_of HT_.out (by kernel_rfl)) ?_
           have hnb69 := NB511_510.out
           have hnc69 := NB510_511.out
           have hnb70 := NB511_522.out
           have hnc70 := NB522_511.out
           have hcz71_0 := cz_ BK511 0 (.int .i64 a1_0)
           have hcz71_1 := cz_ BK511 1 (.int .i64 a1_1)
           have hcz71_2 := cz_ BK511 2 (.int .i64 a1_2)
           have hcz71_3 := cz_ BK511 3 (.int .i64 a1_3)
           have hcz71_4 := cz_ BK511 4 (.string a1_4)
           have hfz71_0 := blk_frozen BK511.out 0
           have hfz71_1 := blk_frozen BK511.out 1
           have hfz71_2 := blk_frozen BK511.out 2
           have hfz71_3 := blk_frozen BK511.out 3
           have hfz71_4 := blk_frozen BK511.out 4
           try go_wp2
           replace HO_523000 := rd_ HO_523000
           replace BK510 := Aside0.mk (blk_drew BK510.out)
           replace BK511 := Aside0.mk (blk_drew BK511.out)
           replace BK522 := Aside0.mk (blk_drew BK522.out)
           replace HB := Aside0.mk (below_drew1 HB.out)
           refine start_ (n := 9) (S := fun w' => w'.cell? ⟨gb511, 0, none⟩ = some (.int .i64 a1_0) ∧ w'.cell? ⟨gb511, 1, none⟩ = some (.int .i64 a1_1) ∧ w'.cell? ⟨gb511, 2, none⟩ = some (.int .i64 a1_2) ∧ w'.cell? ⟨gb511, 3, none⟩ = some (.int .i64 a1_3) ∧ w'.cell? ⟨gb511, 4, none⟩ = some (.string a1_4)) (ds := []) #[false, false, false, false, false, false, false, false, false] (by kernel_rfl) rfl rfl ⟨cy_ BK511 0, cy_ BK511 1, cy_ BK511 2, cy_ BK511 3, cy_ BK511 4⟩ (fun hHeld => ?_); refine with_tabW midrangeref04_Undo.tab14 midrangeref04_Undo.bits14 (fun HT_ HW_ => ?_)
           generalize w68.drew = w72 at HO_523000 BK510 BK511 BK522 HB hHeld ⊢
           refine pu_ 0 58 HT_ ?_
           refine pu_ 1 59 HT_ ?_
           refine pu_ 3 61 HT_ ?_
           refine tk_ 2 60 HT_ HW_ hHeld rfl (Or.inl ⟨by rfl, by rintro w' ⟨s0, s1, s2, s3, s4⟩; go_simp; with_reducible rfl⟩) ?_
           refine one_ (i := 4) (N := some 62) #[true, true, true, true, true, false, false, false, false] rfl rfl (one_of HT_.out (by kernel_rfl)) (by decide) (fun K hK => ?_)
           refine goes_ Tryd.func20 (by kernel_rfl) rfl #[.string (((rd_T46 l0_0 t523).f1).extract ((ji42) : Int).toNat ((rd_T46 l0_0 t523).f1).size)] (by rfl) rfl rfl (by (try simp only [List.map_toArray, List.map_cons, List.map_nil]); first | done | (simp only [hji42]; rfl) | rfl | (simp only [List.length_drop, List.length_take]; rfl)) ?_
           with_reducible refine (midrangeref04_Pages.calls (((rd_T46 l0_0 t523).f1).extract ((ji42) : Int).toNat ((rd_T46 l0_0 t523).f1).size) t533 _ A63.out).mono ?_
           rintro e w' ⟨rfl, ⟨nd, rfl⟩⟩
           refine ⟨_, rfl, ?_⟩
           refine hK.out _ _ ⟨cy_ BK511 0, cy_ BK511 1, cy_ BK511 2, cy_ BK511 3, cy_ BK511 4⟩ (fun hHeld => ?_)
           clear hK K
           refine nn_ 62 ?_
           refine pu_ 5 63 HT_ ?_
           refine one_ (i := 6) (N := some 64) #[true, true, true, true, true, true, true, false, false] rfl rfl (one_of HT_.out (by kernel_rfl)) (by decide) (fun K hK => ?_)
           refine value_ (w1 := ?_) (v := ?_) (by rfl) rfl ?_ ?_
           rotate_left 2
           ·
            go_simp
            constructor
            · rfl
            rfl
           refine hK.out _ _ ⟨(blk_cell (blk_alloc BK511.out _) 0).trans rfl, (blk_cell (blk_alloc BK511.out _) 1).trans rfl, (blk_cell (blk_alloc BK511.out _) 2).trans rfl, (blk_cell (blk_alloc BK511.out _) 3).trans rfl, (blk_cell (blk_alloc BK511.out _) 4).trans rfl⟩ (fun hHeld => ?_)
           clear hK K
           refine nn_ 64 ?_
           refine one_ (i := 7) (N := some 65) #[true, true, true, true, true, true, true, true, false] rfl rfl (one_of HT_.out (by kernel_rfl)) (by decide) (fun K hK => ?_)
           refine Kd.R_append_step k26 (w0 := w) w.heap.size (by rfl) (.tmp 58) (.tmp 64) 29 26 (.agg #[(.int .i64 0), (.int .i64 0), (.int .i64 0), (.int .i64 0), (.string ⟨#[]⟩)]) 48 rfl Tryd.underlying29 info26 rfl (by decide) (by omega) (.slice none 0 0) ([] : List (S26)) (⟨1, a1_1, 0, t533, (⟨#[]⟩ : ByteArray)⟩ : S26) [.int .i64 1, .int .i64 a1_1, .int .i64 0, .int .i64 t533, .string (⟨#[]⟩ : ByteArray)] (fun k_ => k_ ≠ gb511) (fun _ => False) rfl rfl ?aP (fun _ hk => hk.elim) ?aF ?aO ?aB ?aS ?aL ?_
           (case aP => exact k26_mkM _ _ _ (⟨1, a1_1, 0, t533, (⟨#[]⟩ : ByteArray)⟩ : S26))
           (case aB => exact (pb_ HB))
           (case aF => exact (fun k_ hk => Kd.freshB (g := gb511) (o := .cells #[.int .i64 a1_0, .int .i64 a1_1, .int .i64 a1_2, .int .i64 a1_3, .string a1_4] 26 (0, 0)) (pk_ BK511) k_ hk))
           (case aO => exact ((Kd.R_nil _ _ _ _ (fun k_ => k_ ≠ gb511))))
           (case aS => exact (below_size (pb_ HB)))
           (case aL => have := LMc64.out; omega)
           intro v535 w73 ho hb hg hat
           rw [← Ny534.out] at ho
           replace HO_523000 := Aside0.mk (Kd.R_grown (rk_ HO_523000) hg (fun _ _ => by simp [Value.ownBlock]))
           replace BK510 := Aside0.mk (blk_grown (g := gb510) (o := .cells #[.slice (some ad524) l0_0.length c0_0, .int .i64 a0_1] 24 (0, 0)) (pk_ BK510) hg (by simp [Value.ownBlock]))
           replace BK511 := Aside0.mk (blk_grown (g := gb511) (o := .cells #[.int .i64 a1_0, .int .i64 a1_1, .int .i64 a1_2, .int .i64 a1_3, .string a1_4] 26 (0, 0)) (pk_ BK511) hg (by simp [Value.ownBlock]))
           replace BK522 := Aside0.mk (blk_grown (g := gb522) (o := .cells #[.slice Ao16 t515.length co16, .int .i64 t518, .int .i64 t519, .string t520, .int .i64 t521] 51 (0, 0)) (pk_ BK522) hg (by simp [Value.ownBlock]))
           replace HB := Aside0.mk (hb)
           have HO536 := Aside0.mk (ho)
           clear ho hb hg hat
           refine hK.out _ _ ⟨cy_ BK511 0, cy_ BK511 1, cy_ BK511 2, cy_ BK511 3, cy_ BK511 4⟩ (fun hHeld => ?_)
           clear hK K
           refine nn_ 65 ?_
           refine pu_ 8 8 HT_ ?_
           refine done_ (done_of HT_.out (by kernel_rfl)) ?_
           try go_wp2_with (first | ((with_reducible refine gate_callee (f := 21) rfl ?_); refine goesL_ (some 69) rfl rfl Tryd.func21 (by kernel_rfl) rfl #[.int .i64 ((((rd_T46 l0_0 t523).f1).size - ((ji42) : Int).toNat : Nat) : Int)] rfl (by (try simp only [List.map_toArray, List.map_cons, List.map_nil]); first | done | (simp only [hji42]; rfl) | rfl | (simp only [List.length_drop, List.length_take]; rfl)) ?_; (with_reducible refine (midrangeref04_Zeros.calls kj4 ((((rd_T46 l0_0 t523).f1).size - ((ji42) : Int).toNat : Nat) : Int) t537 _ A65.out).mono ?_); rintro e w74 ⟨rfl, hb⟩; refine ⟨_, rfl, ?_⟩; replace HO_523000 := Aside0.mk (Kd.R_below (rk_ HO_523000) hb); replace HO536 := Aside0.mk (Kd.R_below (rk_ HO536) hb); replace BK510 := kb_ BK510 hb; replace BK511 := kb_ BK511 hb; replace BK522 := kb_ BK522 hb; replace HB := sb_ HB hb; (try clear hb); (try clear hb2); (try clear hk); (try clear hi)))
           go_ret2
           exact ⟨_, by first | rfl | (simp [errW_none, errW_some] <;> rfl) | (simp only [← hji42]; first | rfl | (simp [errW_none, errW_some] <;> rfl)) | (simp [*, errW_none, errW_some] <;> rfl), by (with_reducible repeat (first | apply Kd.R_alloc | apply Kd.R_drewN | apply Kd.R_drew)); exact Kd.R_mono HO536.out (fun _ hk => trivial), pb_ HB⟩
          rw [if_neg c66] at H
          have c66b0 : ((((rd_T46 l0_0 t523).f1).extract ((ji42) : Int).toNat ((rd_T46 l0_0 t523).f1).size).toList == t537.toList) = false := beq_eq_false_iff_ne.mpr c66
          have c66b1 : ((((rd_T46 l0_0 t523).f1).extract ((ji42) : Int).toNat ((rd_T46 l0_0 t523).f1).size).toList != t537.toList) = true := bne_iff_ne.mpr c66
          by_cases c75 : y534.length < 2932031007402
          ·
           rw [if_pos c75] at H
           have LMc75 := Aside0.mk c75
           clear c75
           obtain ⟨y538, hy538⟩ : ∃ y_ : List (S26), y_ = (y534 ++ [(⟨4, a1_1, ji42, 0, ((rd_T46 l0_0 t523).f1).extract ((ji42) : Int).toNat ((rd_T46 l0_0 t523).f1).size⟩ : S26)]) := ⟨_, rfl⟩
           replace H : (some (y538, 0)) = some (r1, r2) := by first | (rw [hy538]; with_reducible exact H) | (have H2_ := (Option.bind_some _ _).symm.trans H; rw [hy538]; with_reducible exact H2_) | (have H2_ := (Option.bind_some _ _).symm.trans H; with_reducible exact H2_) | with_reducible exact H | (rw [hy538]; exact H) | exact H
           have Ny538 := Aside0.mk hy538
           clear hy538
           simp only [Option.some.injEq, Prod.mk.injEq] at H
           obtain ⟨rfl, rfl⟩ := H
           try go_wp2
           replace HO_523000 := rd_ HO_523000
           replace BK510 := Aside0.mk (blk_drew BK510.out)
           replace BK511 := Aside0.mk (blk_drew BK511.out)
           replace BK522 := Aside0.mk (blk_drew BK522.out)
           replace HB := Aside0.mk (below_drew1 HB.out)
           have p524 : 0 ≤ (t523 : Int) := ct_
           have q524 : t523 < (l0_0.length : Int) := ct_
           obtain ⟨ad524, e524, hx524_0, hx524_1⟩ := at_T46 HR0_0.out t523 p524 q524
           have hw524_1 := hx524_1
           have hw524_0 := hx524_0
           cases e524
           replace hx524_0 := pw_cell_below HB.out hx524_0
           replace hx524_1 := pw_cell_below HB.out hx524_1
           replace p524 := eq_true p524
           replace q524 := eq_true q524
           refine start_ (n := 10) (S := fun w' => w'.cell? ⟨gb510, 0, none⟩ = some (.slice (some ad524) l0_0.length c0_0) ∧ w'.cell? ⟨gb510, 1, none⟩ = some (.int .i64 a0_1) ∧ w'.cell? ⟨gb511, 0, none⟩ = some (.int .i64 a1_0) ∧ w'.cell? ⟨gb511, 1, none⟩ = some (.int .i64 a1_1) ∧ w'.cell? ⟨gb511, 2, none⟩ = some (.int .i64 a1_2) ∧ w'.cell? ⟨gb511, 3, none⟩ = some (.int .i64 a1_3) ∧ w'.cell? ⟨gb511, 4, none⟩ = some (.string a1_4) ∧ w'.cell? (ad524.add ((t523).toNat * 2)) = some (.int .i64 ((rd_T46 l0_0 t523).f0)) ∧ w'.cell? ⟨(ad524.add ((t523).toNat * 2)).block, (ad524.add ((t523).toNat * 2)).off + 1, none⟩ = some (.string ((rd_T46 l0_0 t523).f1))) (ds := []) #[false, false, false, false, false, false, false, false, false, false] (by kernel_rfl) rfl rfl ⟨cy_ BK510 0, cy_ BK510 1, cy_ BK511 0, cy_ BK511 1, cy_ BK511 2, cy_ BK511 3, cy_ BK511 4, (pw_cell_below HB.out hw524_0), (pw_cell_below HB.out hw524_1)⟩ (fun hHeld => ?_); refine with_tabW midrangeref04_Undo.tab6 midrangeref04_Undo.bits6 (fun HT_ HW_ => ?_)
           generalize wc.drew = w76 at HO_523000 BK510 BK511 BK522 HB hx524_0 hx524_1 hHeld ⊢
           refine pu_ 0 28 HT_ ?_
           refine pu_ 3 31 HT_ ?_
           refine tk_ 1 29 HT_ HW_ hHeld rfl (Or.inl ⟨by rfl, by rintro w' ⟨s0, s1, s2, s3, s4, s5, s6, s7, s8⟩; go_simp; with_reducible rfl⟩) ?_
           refine tk_ 2 30 HT_ HW_ hHeld rfl (Or.inl ⟨by rfl, by rintro w' ⟨s0, s1, s2, s3, s4, s5, s6, s7, s8⟩; go_simp; with_reducible rfl⟩) ?_
           refine tk_ 4 32 HT_ HW_ hHeld rfl (Or.inl ⟨by rfl, by rintro w' ⟨s0, s1, s2, s3, s4, s5, s6, s7, s8⟩; go_simp; with_reducible rfl⟩) ?_
           refine one_ (i := 5) (N := some 33) #[true, true, true, true, true, true, false, false, false, false] rfl rfl (one_of HT_.out (by kernel_rfl)) (by decide) (fun K hK => ?_)
           refine goes_ Tryd.func19 (by kernel_rfl) rfl #[.agg #[.slice (some ad524) l0_0.length c0_0, .int .i64 a0_1], .int .i64 a1_1] (by rfl) rfl rfl (by (try simp only [List.map_toArray, List.map_cons, List.map_nil]); first | done | rfl | (simp only [List.length_drop, List.length_take]; rfl)) ?_
           with_reducible refine (midrangeref04_Place.calls kj4 _ _ l0_0 a0_1 a1_1 t523 _ ?side1 ?side2 A28.out).mono ?_
           (case side1 => exact pc_ (Kd.C_below HR0_0.out HB.out))
           (case side2 => exact HC0_0.out)
           rintro e w77 ⟨rfl, hb⟩
           refine ⟨_, rfl, ?_⟩
           replace HO_523000 := Aside0.mk (Kd.R_below (rk_ HO_523000) hb)
           replace BK510 := kb_ BK510 hb
           replace BK511 := kb_ BK511 hb
           replace BK522 := kb_ BK522 hb
           replace HB := sb_ HB hb
           (try clear hb)
           (try clear hb2)
           (try clear hk)
           (try clear hi)
           refine hK.out _ _ ⟨cy_ BK510 0, cy_ BK510 1, cy_ BK511 0, cy_ BK511 1, cy_ BK511 2, cy_ BK511 3, cy_ BK511 4, (pw_cell_below HB.out hw524_0), (pw_cell_below HB.out hw524_1)⟩ (fun hHeld => ?_)
           clear hK K
           refine nn_ 33 ?_
           refine pu_ 6 34 HT_ ?_
           refine pu_ 7 35 HT_ ?_
           refine tk_ 8 36 HT_ HW_ hHeld rfl (Or.inl ⟨by rfl, by rintro w' ⟨s0, s1, s2, s3, s4, s5, s6, s7, s8⟩; go_simp; with_reducible rfl⟩) ?_
           refine pu_ 9 7 HT_ ?_
           refine done_ (done_of HT_.out (by kernel_rfl)) ?_
           have hnb78 := NB511_510.out
           have hnc78 := NB510_511.out
           have hnb79 := NB511_522.out
           have hnc79 := NB522_511.out
           have hcz80_0 := cz_ BK511 0 (.int .i64 a1_0)
           have hcz80_1 := cz_ BK511 1 (.int .i64 a1_1)
           have hcz80_2 := cz_ BK511 2 (.int .i64 a1_2)
           have hcz80_3 := cz_ BK511 3 (.int .i64 a1_3)
           have hcz80_4 := cz_ BK511 4 (.string a1_4)
           have hfz80_0 := blk_frozen BK511.out 0
           have hfz80_1 := blk_frozen BK511.out 1
           have hfz80_2 := blk_frozen BK511.out 2
           have hfz80_3 := blk_frozen BK511.out 3
           have hfz80_4 := blk_frozen BK511.out 4
           try go_wp2
           replace HO_523000 := rd_ HO_523000
           replace BK510 := Aside0.mk (blk_drew BK510.out)
           replace BK511 := Aside0.mk (blk_drew BK511.out)
           replace BK522 := Aside0.mk (blk_drew BK522.out)
           replace HB := Aside0.mk (below_drew1 HB.out)
           refine start_ (n := 9) (S := fun w' => w'.cell? ⟨gb511, 0, none⟩ = some (.int .i64 a1_0) ∧ w'.cell? ⟨gb511, 1, none⟩ = some (.int .i64 a1_1) ∧ w'.cell? ⟨gb511, 2, none⟩ = some (.int .i64 a1_2) ∧ w'.cell? ⟨gb511, 3, none⟩ = some (.int .i64 a1_3) ∧ w'.cell? ⟨gb511, 4, none⟩ = some (.string a1_4)) (ds := []) #[false, false, false, false, false, false, false, false, false] (by kernel_rfl) rfl rfl ⟨cy_ BK511 0, cy_ BK511 1, cy_ BK511 2, cy_ BK511 3, cy_ BK511 4⟩ (fun hHeld => ?_); refine with_tabW midrangeref04_Undo.tab14 midrangeref04_Undo.bits14 (fun HT_ HW_ => ?_)
           generalize w77.drew = w81 at HO_523000 BK510 BK511 BK522 HB hHeld ⊢
           refine pu_ 0 58 HT_ ?_
           refine pu_ 1 59 HT_ ?_
           refine pu_ 3 61 HT_ ?_
           refine tk_ 2 60 HT_ HW_ hHeld rfl (Or.inl ⟨by rfl, by rintro w' ⟨s0, s1, s2, s3, s4⟩; go_simp; with_reducible rfl⟩) ?_
           refine one_ (i := 4) (N := some 62) #[true, true, true, true, true, false, false, false, false] rfl rfl (one_of HT_.out (by kernel_rfl)) (by decide) (fun K hK => ?_)
           refine goes_ Tryd.func20 (by kernel_rfl) rfl #[.string (((rd_T46 l0_0 t523).f1).extract ((ji42) : Int).toNat ((rd_T46 l0_0 t523).f1).size)] (by rfl) rfl rfl (by (try simp only [List.map_toArray, List.map_cons, List.map_nil]); first | done | (simp only [hji42]; rfl) | rfl | (simp only [List.length_drop, List.length_take]; rfl)) ?_
           with_reducible refine (midrangeref04_Pages.calls (((rd_T46 l0_0 t523).f1).extract ((ji42) : Int).toNat ((rd_T46 l0_0 t523).f1).size) t533 _ A63.out).mono ?_
           rintro e w' ⟨rfl, ⟨nd, rfl⟩⟩
           refine ⟨_, rfl, ?_⟩
           refine hK.out _ _ ⟨cy_ BK511 0, cy_ BK511 1, cy_ BK511 2, cy_ BK511 3, cy_ BK511 4⟩ (fun hHeld => ?_)
           clear hK K
           refine nn_ 62 ?_
           refine pu_ 5 63 HT_ ?_
           refine one_ (i := 6) (N := some 64) #[true, true, true, true, true, true, true, false, false] rfl rfl (one_of HT_.out (by kernel_rfl)) (by decide) (fun K hK => ?_)
           refine value_ (w1 := ?_) (v := ?_) (by rfl) rfl ?_ ?_
           rotate_left 2
           ·
            go_simp
            constructor
            · rfl
            rfl
           refine hK.out _ _ ⟨(blk_cell (blk_alloc BK511.out _) 0).trans rfl, (blk_cell (blk_alloc BK511.out _) 1).trans rfl, (blk_cell (blk_alloc BK511.out _) 2).trans rfl, (blk_cell (blk_alloc BK511.out _) 3).trans rfl, (blk_cell (blk_alloc BK511.out _) 4).trans rfl⟩ (fun hHeld => ?_)
           clear hK K
           refine nn_ 64 ?_
           refine one_ (i := 7) (N := some 65) #[true, true, true, true, true, true, true, true, false] rfl rfl (one_of HT_.out (by kernel_rfl)) (by decide) (fun K hK => ?_)
           refine Kd.R_append_step k26 (w0 := w) w.heap.size (by rfl) (.tmp 58) (.tmp 64) 29 26 (.agg #[(.int .i64 0), (.int .i64 0), (.int .i64 0), (.int .i64 0), (.string ⟨#[]⟩)]) 48 rfl Tryd.underlying29 info26 rfl (by decide) (by omega) (.slice none 0 0) ([] : List (S26)) (⟨1, a1_1, 0, t533, (⟨#[]⟩ : ByteArray)⟩ : S26) [.int .i64 1, .int .i64 a1_1, .int .i64 0, .int .i64 t533, .string (⟨#[]⟩ : ByteArray)] (fun k_ => k_ ≠ gb511) (fun _ => False) rfl rfl ?aP (fun _ hk => hk.elim) ?aF ?aO ?aB ?aS ?aL ?_
           (case aP => exact k26_mkM _ _ _ (⟨1, a1_1, 0, t533, (⟨#[]⟩ : ByteArray)⟩ : S26))
           (case aB => exact (pb_ HB))
           (case aF => exact (fun k_ hk => Kd.freshB (g := gb511) (o := .cells #[.int .i64 a1_0, .int .i64 a1_1, .int .i64 a1_2, .int .i64 a1_3, .string a1_4] 26 (0, 0)) (pk_ BK511) k_ hk))
           (case aO => exact ((Kd.R_nil _ _ _ _ (fun k_ => k_ ≠ gb511))))
           (case aS => exact (below_size (pb_ HB)))
           (case aL => have := LMc64.out; omega)
           intro v535 w82 ho hb hg hat
           rw [← Ny534.out] at ho
           replace HO_523000 := Aside0.mk (Kd.R_grown (rk_ HO_523000) hg (fun _ _ => by simp [Value.ownBlock]))
           replace BK510 := Aside0.mk (blk_grown (g := gb510) (o := .cells #[.slice (some ad524) l0_0.length c0_0, .int .i64 a0_1] 24 (0, 0)) (pk_ BK510) hg (by simp [Value.ownBlock]))
           replace BK511 := Aside0.mk (blk_grown (g := gb511) (o := .cells #[.int .i64 a1_0, .int .i64 a1_1, .int .i64 a1_2, .int .i64 a1_3, .string a1_4] 26 (0, 0)) (pk_ BK511) hg (by simp [Value.ownBlock]))
           replace BK522 := Aside0.mk (blk_grown (g := gb522) (o := .cells #[.slice Ao16 t515.length co16, .int .i64 t518, .int .i64 t519, .string t520, .int .i64 t521] 51 (0, 0)) (pk_ BK522) hg (by simp [Value.ownBlock]))
           replace HB := Aside0.mk (hb)
           have HO536 := Aside0.mk (ho)
           clear ho hb hg hat
           refine hK.out _ _ ⟨cy_ BK511 0, cy_ BK511 1, cy_ BK511 2, cy_ BK511 3, cy_ BK511 4⟩ (fun hHeld => ?_)
           clear hK K
           refine nn_ 65 ?_
           refine pu_ 8 8 HT_ ?_
           refine done_ (done_of HT_.out (by kernel_rfl)) ?_
           try go_wp2_with (first | ((with_reducible refine gate_callee (f := 21) rfl ?_); refine goesL_ (some 69) rfl rfl Tryd.func21 (by kernel_rfl) rfl #[.int .i64 ((((rd_T46 l0_0 t523).f1).size - ((ji42) : Int).toNat : Nat) : Int)] rfl (by (try simp only [List.map_toArray, List.map_cons, List.map_nil]); first | done | (simp only [hji42]; rfl) | rfl | (simp only [List.length_drop, List.length_take]; rfl)) ?_; (with_reducible refine (midrangeref04_Zeros.calls kj4 ((((rd_T46 l0_0 t523).f1).size - ((ji42) : Int).toNat : Nat) : Int) t537 _ A65.out).mono ?_); rintro e w83 ⟨rfl, hb⟩; refine ⟨_, rfl, ?_⟩; replace HO_523000 := Aside0.mk (Kd.R_below (rk_ HO_523000) hb); replace HO536 := Aside0.mk (Kd.R_below (rk_ HO536) hb); replace BK510 := kb_ BK510 hb; replace BK511 := kb_ BK511 hb; replace BK522 := kb_ BK522 hb; replace HB := sb_ HB hb; (try clear hb); (try clear hb2); (try clear hk); (try clear hi); have hcz84_0 := cz_ BK511 0 (.int .i64 a1_0); have hcz84_1 := cz_ BK511 1 (.int .i64 a1_1); have hcz84_2 := cz_ BK511 2 (.int .i64 a1_2); have hcz84_3 := cz_ BK511 3 (.int .i64 a1_3); have hcz84_4 := cz_ BK511 4 (.string a1_4); have hfz84_0 := blk_frozen BK511.out 0; have hfz84_1 := blk_frozen BK511.out 1; have hfz84_2 := blk_frozen BK511.out 2; have hfz84_3 := blk_frozen BK511.out 3; have hfz84_4 := blk_frozen BK511.out 4) | ((with_reducible refine gate_builtin (b := .append) (xs := #[.tmp 71, .tmp 79]) rfl ?_); at_builtin; refine Kd.R_append k26 (w0 := w) w.heap.size rfl (.tmp 71) (.tmp 79) 29 26 (.agg #[(.int .i64 0), (.int .i64 0), (.int .i64 0), (.int .i64 0), (.string ⟨#[]⟩)]) 48 rfl Tryd.underlying29 info26 rfl (by decide) (by omega) v535 y534 (⟨4, a1_1, ji42, 0, ((rd_T46 l0_0 t523).f1).extract ((ji42) : Int).toNat ((rd_T46 l0_0 t523).f1).size⟩ : S26) [.int .i64 4, .int .i64 a1_1, .int .i64 ji42, .int .i64 0, .string (((rd_T46 l0_0 t523).f1).extract ((ji42) : Int).toNat ((rd_T46 l0_0 t523).f1).size)] (fun k_ => k_ ≠ gb511) (fun _ => False) rfl rfl ?aP (fun _ hk => hk.elim) ?aF ?aO ?aB ?aS ?aL ?_; (case aP => exact k26_mkM _ _ _ (⟨4, a1_1, ji42, 0, ((rd_T46 l0_0 t523).f1).extract ((ji42) : Int).toNat ((rd_T46 l0_0 t523).f1).size⟩ : S26)); (case aB => exact (pb_ HB)); (case aF => exact (fun k_ hk => Kd.freshB (g := gb511) (o := .cells #[.int .i64 a1_0, .int .i64 a1_1, .int .i64 a1_2, .int .i64 a1_3, .string a1_4] 26 (0, 0)) (pk_ BK511) k_ hk)); (case aO => exact (rk_ HO536)); (case aS => exact (below_size (pb_ HB))); (case aL => have := LMc75.out; omega); intro v539 w85 ho hb hg hat; rw [← Ny538.out] at ho; replace HO_523000 := Aside0.mk (Kd.R_over' (rk_ HO_523000) (Kd.R_typed (rk_ HO536)) (by decide) hg); replace BK510 := Aside0.mk (blk_grown (g := gb510) (o := .cells #[.slice (some ad524) l0_0.length c0_0, .int .i64 a0_1] 24 (0, 0)) (pk_ BK510) hg (Kd.R_ne HO536.out BK510.out (by decide))); replace BK511 := Aside0.mk (blk_grown (g := gb511) (o := .cells #[.int .i64 a1_0, .int .i64 a1_1, .int .i64 a1_2, .int .i64 a1_3, .string a1_4] 26 (0, 0)) (pk_ BK511) hg (Kd.R_away HO536.out (fun _ hk => hk))); replace BK522 := Aside0.mk (blk_grown (g := gb522) (o := .cells #[.slice Ao16 t515.length co16, .int .i64 t518, .int .i64 t519, .string t520, .int .i64 t521] 51 (0, 0)) (pk_ BK522) hg (Kd.R_ne HO536.out BK522.out (by decide))); replace HB := Aside0.mk (hb); have HO540 := Aside0.mk (ho); clear HO536; clear ho hb hg hat))
           go_ret2
           exact ⟨_, by first | rfl | (simp [errW_none, errW_some] <;> rfl) | (simp only [← hji42]; first | rfl | (simp [errW_none, errW_some] <;> rfl)) | (simp [*, errW_none, errW_some] <;> rfl), by (with_reducible repeat (first | apply Kd.R_alloc | apply Kd.R_drewN | apply Kd.R_drew)); exact Kd.R_mono HO540.out (fun _ hk => trivial), pb_ HB⟩
          rw [if_neg c75] at H
          exact absurd H (by simp)
         rw [if_neg c64] at H
         exact absurd H (by simp)
        rw [if_neg c44] at H
        exact absurd H (by simp)
       rw [if_neg c43] at H
       exact absurd H (by simp)
      rw [if_neg c41] at H
      have c41b0 : (a1_0 == 2) = false := beq_eq_false_iff_ne.mpr c41
      have c41b1 : (a1_0 != 2) = true := bne_iff_ne.mpr c41
      by_cases c86 : a1_0 = 4
      ·
       rw [if_pos c86] at H
       have c86b0 : (a1_0 == 4) = true := beq_iff_eq.mpr c86
       have c86b1 : (a1_0 != 4) = false := bne_eq_false_iff_eq.mpr c86
       clear c86
       by_cases c87 : 0 ≤ a1_2
       ·
        rw [if_pos c87] at H
        have c87b0 := eq_true c87
        have c87b1 : decide (0 ≤ a1_2) = true := decide_eq_true c87
        clear c87
        by_cases c88 : a1_2 ≤ (wrap64 (a1_2 + (a1_4.size : Int)))
        ·
         rw [if_pos c88] at H
         have c88b0 := eq_true c88
         have c88b1 : decide (a1_2 ≤ (wrap64 (a1_2 + (a1_4.size : Int)))) = true := decide_eq_true c88
         by_cases c89 : (wrap64 (a1_2 + (a1_4.size : Int))) ≤ (((rd_T46 l0_0 t523).f1).size : Int)
         ·
          rw [if_pos c89] at H
          have c89b0 := eq_true c89
          have c89b1 : decide ((wrap64 (a1_2 + (a1_4.size : Int))) ≤ (((rd_T46 l0_0 t523).f1).size : Int)) = true := decide_eq_true c89
          by_cases c90 : (((rd_T46 l0_0 t523).f1).extract (a1_2 : Int).toNat ((wrap64 (a1_2 + (a1_4.size : Int))) : Int).toNat).toList = a1_4.toList
          ·
           rw [if_pos c90] at H
           have c90b0 : ((((rd_T46 l0_0 t523).f1).extract (a1_2 : Int).toNat ((wrap64 (a1_2 + (a1_4.size : Int))) : Int).toNat).toList == a1_4.toList) = true := beq_iff_eq.mpr c90
           have c90b1 : ((((rd_T46 l0_0 t523).f1).extract (a1_2 : Int).toNat ((wrap64 (a1_2 + (a1_4.size : Int))) : Int).toNat).toList != a1_4.toList) = false := bne_eq_false_iff_eq.mpr c90
           clear c90
           simp only [Option.some.injEq, Prod.mk.injEq] at H
           obtain ⟨rfl, rfl⟩ := H
           try go_wp2
           replace HO_523000 := rd_ HO_523000
           replace BK510 := Aside0.mk (blk_drew BK510.out)
           replace BK511 := Aside0.mk (blk_drew BK511.out)
           replace BK522 := Aside0.mk (blk_drew BK522.out)
           replace HB := Aside0.mk (below_drew1 HB.out)
           have p524 : 0 ≤ (t523 : Int) := ct_
           have q524 : t523 < (l0_0.length : Int) := ct_
           obtain ⟨ad524, e524, hx524_0, hx524_1⟩ := at_T46 HR0_0.out t523 p524 q524
           have hw524_1 := hx524_1
           have hw524_0 := hx524_0
           cases e524
           replace hx524_0 := pw_cell_below HB.out hx524_0
           replace hx524_1 := pw_cell_below HB.out hx524_1
           replace p524 := eq_true p524
           replace q524 := eq_true q524
           refine start_ (n := 10) (S := fun w' => w'.cell? ⟨gb510, 0, none⟩ = some (.slice (some ad524) l0_0.length c0_0) ∧ w'.cell? ⟨gb510, 1, none⟩ = some (.int .i64 a0_1) ∧ w'.cell? ⟨gb511, 0, none⟩ = some (.int .i64 a1_0) ∧ w'.cell? ⟨gb511, 1, none⟩ = some (.int .i64 a1_1) ∧ w'.cell? ⟨gb511, 2, none⟩ = some (.int .i64 a1_2) ∧ w'.cell? ⟨gb511, 3, none⟩ = some (.int .i64 a1_3) ∧ w'.cell? ⟨gb511, 4, none⟩ = some (.string a1_4) ∧ w'.cell? (ad524.add ((t523).toNat * 2)) = some (.int .i64 ((rd_T46 l0_0 t523).f0)) ∧ w'.cell? ⟨(ad524.add ((t523).toNat * 2)).block, (ad524.add ((t523).toNat * 2)).off + 1, none⟩ = some (.string ((rd_T46 l0_0 t523).f1))) (ds := []) #[false, false, false, false, false, false, false, false, false, false] (by kernel_rfl) rfl rfl ⟨cy_ BK510 0, cy_ BK510 1, cy_ BK511 0, cy_ BK511 1, cy_ BK511 2, cy_ BK511 3, cy_ BK511 4, (pw_cell_below HB.out hw524_0), (pw_cell_below HB.out hw524_1)⟩ (fun hHeld => ?_); refine with_tabW midrangeref04_Undo.tab6 midrangeref04_Undo.bits6 (fun HT_ HW_ => ?_)
           generalize wc.drew = w91 at HO_523000 BK510 BK511 BK522 HB hx524_0 hx524_1 hHeld ⊢
           refine pu_ 0 28 HT_ ?_
           refine pu_ 3 31 HT_ ?_
           refine tk_ 1 29 HT_ HW_ hHeld rfl (Or.inl ⟨by rfl, by rintro w' ⟨s0, s1, s2, s3, s4, s5, s6, s7, s8⟩; go_simp; with_reducible rfl⟩) ?_
           refine tk_ 2 30 HT_ HW_ hHeld rfl (Or.inl ⟨by rfl, by rintro w' ⟨s0, s1, s2, s3, s4, s5, s6, s7, s8⟩; go_simp; with_reducible rfl⟩) ?_
           refine tk_ 4 32 HT_ HW_ hHeld rfl (Or.inl ⟨by rfl, by rintro w' ⟨s0, s1, s2, s3, s4, s5, s6, s7, s8⟩; go_simp; with_reducible rfl⟩) ?_
           refine one_ (i := 5) (N := some 33) #[true, true, true, true, true, true, false, false, false, false] rfl rfl (one_of HT_.out (by kernel_rfl)) (by decide) (fun K hK => ?_)
           refine goes_ Tryd.func19 (by kernel_rfl) rfl #[.agg #[.slice (some ad524) l0_0.length c0_0, .int .i64 a0_1], .int .i64 a1_1] (by rfl) rfl rfl (by (try simp only [List.map_toArray, List.map_cons, List.map_nil]); first | done | rfl | (simp only [List.length_drop, List.length_take]; rfl)) ?_
           with_reducible refine (midrangeref04_Place.calls kj4 _ _ l0_0 a0_1 a1_1 t523 _ ?side1 ?side2 A28.out).mono ?_
           (case side1 => exact pc_ (Kd.C_below HR0_0.out HB.out))
           (case side2 => exact HC0_0.out)
           rintro e w92 ⟨rfl, hb⟩
           refine ⟨_, rfl, ?_⟩
           replace HO_523000 := Aside0.mk (Kd.R_below (rk_ HO_523000) hb)
           replace BK510 := kb_ BK510 hb
           replace BK511 := kb_ BK511 hb
           replace BK522 := kb_ BK522 hb
           replace HB := sb_ HB hb
           (try clear hb)
           (try clear hb2)
           (try clear hk)
           (try clear hi)
           refine hK.out _ _ ⟨cy_ BK510 0, cy_ BK510 1, cy_ BK511 0, cy_ BK511 1, cy_ BK511 2, cy_ BK511 3, cy_ BK511 4, (pw_cell_below HB.out hw524_0), (pw_cell_below HB.out hw524_1)⟩ (fun hHeld => ?_)
           clear hK K
           refine nn_ 33 ?_
           refine pu_ 6 34 HT_ ?_
           refine pu_ 7 35 HT_ ?_
           refine tk_ 8 36 HT_ HW_ hHeld rfl (Or.inl ⟨by rfl, by rintro w' ⟨s0, s1, s2, s3, s4, s5, s6, s7, s8⟩; go_simp; with_reducible rfl⟩) ?_
           refine pu_ 9 7 HT_ ?_
           refine done_ (done_of HT_.out (by kernel_rfl)) ?_
           have hnb93 := NB511_510.out
           have hnc93 := NB510_511.out
           have hnb94 := NB511_522.out
           have hnc94 := NB522_511.out
           have hcz95_0 := cz_ BK511 0 (.int .i64 a1_0)
           have hcz95_1 := cz_ BK511 1 (.int .i64 a1_1)
           have hcz95_2 := cz_ BK511 2 (.int .i64 a1_2)
           have hcz95_3 := cz_ BK511 3 (.int .i64 a1_3)
           have hcz95_4 := cz_ BK511 4 (.string a1_4)
           have hfz95_0 := blk_frozen BK511.out 0
           have hfz95_1 := blk_frozen BK511.out 1
           have hfz95_2 := blk_frozen BK511.out 2
           have hfz95_3 := blk_frozen BK511.out 3
           have hfz95_4 := blk_frozen BK511.out 4
           try go_wp2
           go_ret2
           exact ⟨_, er_, by first | exact Kd.R_nil _ _ _ _ _ | exact Kd.N_nil _ _ _ _ _ | exact Kd.V_nil _ _ _ _ _ | exact Kd.Q_nil _ _ _ _ _ | exact Kd.S_nil _ _ _ _ _, pb_ HB⟩
          rw [if_neg c90] at H
          have c90b0 : ((((rd_T46 l0_0 t523).f1).extract (a1_2 : Int).toNat ((wrap64 (a1_2 + (a1_4.size : Int))) : Int).toNat).toList == a1_4.toList) = false := beq_eq_false_iff_ne.mpr c90
          have c90b1 : ((((rd_T46 l0_0 t523).f1).extract (a1_2 : Int).toNat ((wrap64 (a1_2 + (a1_4.size : Int))) : Int).toNat).toList != a1_4.toList) = true := bne_iff_ne.mpr c90
          by_cases c96 : ([] : List (S26)).length < 2932031007402
          ·
           rw [if_pos c96] at H
           have LMc96 := Aside0.mk c96
           clear c96
           obtain ⟨y541, hy541⟩ : ∃ y_ : List (S26), y_ = (([] : List (S26)) ++ [(⟨4, a1_1, a1_2, 0, ((rd_T46 l0_0 t523).f1).extract (a1_2 : Int).toNat ((wrap64 (a1_2 + (a1_4.size : Int))) : Int).toNat⟩ : S26)]) := ⟨_, rfl⟩
           replace H : (some (y541, 0)) = some (r1, r2) := by first | (rw [hy541]; with_reducible exact H) | (have H2_ := (Option.bind_some _ _).symm.trans H; rw [hy541]; with_reducible exact H2_) | (have H2_ := (Option.bind_some _ _).symm.trans H; with_reducible exact H2_) | with_reducible exact H | (rw [hy541]; exact H) | exact H
           have Ny541 := Aside0.mk hy541
           clear hy541
           simp only [Option.some.injEq, Prod.mk.injEq] at H
           obtain ⟨rfl, rfl⟩ := H
           try go_wp2
           replace HO_523000 := rd_ HO_523000
           replace BK510 := Aside0.mk (blk_drew BK510.out)
           replace BK511 := Aside0.mk (blk_drew BK511.out)
           replace BK522 := Aside0.mk (blk_drew BK522.out)
           replace HB := Aside0.mk (below_drew1 HB.out)
           have p524 : 0 ≤ (t523 : Int) := ct_
           have q524 : t523 < (l0_0.length : Int) := ct_
           obtain ⟨ad524, e524, hx524_0, hx524_1⟩ := at_T46 HR0_0.out t523 p524 q524
           have hw524_1 := hx524_1
           have hw524_0 := hx524_0
           cases e524
           replace hx524_0 := pw_cell_below HB.out hx524_0
           replace hx524_1 := pw_cell_below HB.out hx524_1
           replace p524 := eq_true p524
           replace q524 := eq_true q524
           refine start_ (n := 10) (S := fun w' => w'.cell? ⟨gb510, 0, none⟩ = some (.slice (some ad524) l0_0.length c0_0) ∧ w'.cell? ⟨gb510, 1, none⟩ = some (.int .i64 a0_1) ∧ w'.cell? ⟨gb511, 0, none⟩ = some (.int .i64 a1_0) ∧ w'.cell? ⟨gb511, 1, none⟩ = some (.int .i64 a1_1) ∧ w'.cell? ⟨gb511, 2, none⟩ = some (.int .i64 a1_2) ∧ w'.cell? ⟨gb511, 3, none⟩ = some (.int .i64 a1_3) ∧ w'.cell? ⟨gb511, 4, none⟩ = some (.string a1_4) ∧ w'.cell? (ad524.add ((t523).toNat * 2)) = some (.int .i64 ((rd_T46 l0_0 t523).f0)) ∧ w'.cell? ⟨(ad524.add ((t523).toNat * 2)).block, (ad524.add ((t523).toNat * 2)).off + 1, none⟩ = some (.string ((rd_T46 l0_0 t523).f1))) (ds := []) #[false, false, false, false, false, false, false, false, false, false] (by kernel_rfl) rfl rfl ⟨cy_ BK510 0, cy_ BK510 1, cy_ BK511 0, cy_ BK511 1, cy_ BK511 2, cy_ BK511 3, cy_ BK511 4, (pw_cell_below HB.out hw524_0), (pw_cell_below HB.out hw524_1)⟩ (fun hHeld => ?_); refine with_tabW midrangeref04_Undo.tab6 midrangeref04_Undo.bits6 (fun HT_ HW_ => ?_)
           generalize wc.drew = w97 at HO_523000 BK510 BK511 BK522 HB hx524_0 hx524_1 hHeld ⊢
           refine pu_ 0 28 HT_ ?_
           refine pu_ 3 31 HT_ ?_
           refine tk_ 1 29 HT_ HW_ hHeld rfl (Or.inl ⟨by rfl, by rintro w' ⟨s0, s1, s2, s3, s4, s5, s6, s7, s8⟩; go_simp; with_reducible rfl⟩) ?_
           refine tk_ 2 30 HT_ HW_ hHeld rfl (Or.inl ⟨by rfl, by rintro w' ⟨s0, s1, s2, s3, s4, s5, s6, s7, s8⟩; go_simp; with_reducible rfl⟩) ?_
           refine tk_ 4 32 HT_ HW_ hHeld rfl (Or.inl ⟨by rfl, by rintro w' ⟨s0, s1, s2, s3, s4, s5, s6, s7, s8⟩; go_simp; with_reducible rfl⟩) ?_
           refine one_ (i := 5) (N := some 33) #[true, true, true, true, true, true, false, false, false, false] rfl rfl (one_of HT_.out (by kernel_rfl)) (by decide) (fun K hK => ?_)
           refine goes_ Tryd.func19 (by kernel_rfl) rfl #[.agg #[.slice (some ad524) l0_0.length c0_0, .int .i64 a0_1], .int .i64 a1_1] (by rfl) rfl rfl (by (try simp only [List.map_toArray, List.map_cons, List.map_nil]); first | done | rfl | (simp only [List.length_drop, List.length_take]; rfl)) ?_
           with_reducible refine (midrangeref04_Place.calls kj4 _ _ l0_0 a0_1 a1_1 t523 _ ?side1 ?side2 A28.out).mono ?_
           (case side1 => exact pc_ (Kd.C_below HR0_0.out HB.out))
           (case side2 => exact HC0_0.out)
           rintro e w98 ⟨rfl, hb⟩
           refine ⟨_, rfl, ?_⟩
           replace HO_523000 := Aside0.mk (Kd.R_below (rk_ HO_523000) hb)
           replace BK510 := kb_ BK510 hb
           replace BK511 := kb_ BK511 hb
           replace BK522 := kb_ BK522 hb
           replace HB := sb_ HB hb
           (try clear hb)
           (try clear hb2)
           (try clear hk)
           (try clear hi)
           refine hK.out _ _ ⟨cy_ BK510 0, cy_ BK510 1, cy_ BK511 0, cy_ BK511 1, cy_ BK511 2, cy_ BK511 3, cy_ BK511 4, (pw_cell_below HB.out hw524_0), (pw_cell_below HB.out hw524_1)⟩ (fun hHeld => ?_)
           clear hK K
           refine nn_ 33 ?_
           refine pu_ 6 34 HT_ ?_
           refine pu_ 7 35 HT_ ?_
           refine tk_ 8 36 HT_ HW_ hHeld rfl (Or.inl ⟨by rfl, by rintro w' ⟨s0, s1, s2, s3, s4, s5, s6, s7, s8⟩; go_simp; with_reducible rfl⟩) ?_
           refine pu_ 9 7 HT_ ?_
           refine done_ (done_of HT_.out (by kernel_rfl)) ?_
           have hnb99 := NB511_510.out
           have hnc99 := NB510_511.out
           have hnb100 := NB511_522.out
           have hnc100 := NB522_511.out
           have hcz101_0 := cz_ BK511 0 (.int .i64 a1_0)
           have hcz101_1 := cz_ BK511 1 (.int .i64 a1_1)
           have hcz101_2 := cz_ BK511 2 (.int .i64 a1_2)
           have hcz101_3 := cz_ BK511 3 (.int .i64 a1_3)
           have hcz101_4 := cz_ BK511 4 (.string a1_4)
           have hfz101_0 := blk_frozen BK511.out 0
           have hfz101_1 := blk_frozen BK511.out 1
           have hfz101_2 := blk_frozen BK511.out 2
           have hfz101_3 := blk_frozen BK511.out 3
           have hfz101_4 := blk_frozen BK511.out 4
           try go_wp2_with (first | ((with_reducible refine gate_builtin (b := .append) (xs := #[.tmp 97, .tmp 104]) rfl ?_); at_builtin; refine Kd.R_append k26 (w0 := w) w.heap.size rfl (.tmp 97) (.tmp 104) 29 26 (.agg #[(.int .i64 0), (.int .i64 0), (.int .i64 0), (.int .i64 0), (.string ⟨#[]⟩)]) 48 rfl Tryd.underlying29 info26 rfl (by decide) (by omega) (.slice none 0 0) ([] : List (S26)) (⟨4, a1_1, a1_2, 0, ((rd_T46 l0_0 t523).f1).extract (a1_2 : Int).toNat ((wrap64 (a1_2 + (a1_4.size : Int))) : Int).toNat⟩ : S26) [.int .i64 4, .int .i64 a1_1, .int .i64 a1_2, .int .i64 0, .string (((rd_T46 l0_0 t523).f1).extract (a1_2 : Int).toNat ((wrap64 (a1_2 + (a1_4.size : Int))) : Int).toNat)] (fun k_ => k_ ≠ gb511) (fun _ => False) rfl rfl ?aP (fun _ hk => hk.elim) ?aF ?aO ?aB ?aS ?aL ?_; (case aP => exact k26_mkM _ _ _ (⟨4, a1_1, a1_2, 0, ((rd_T46 l0_0 t523).f1).extract (a1_2 : Int).toNat ((wrap64 (a1_2 + (a1_4.size : Int))) : Int).toNat⟩ : S26)); (case aB => exact (pb_ HB)); (case aF => exact (fun k_ hk => Kd.freshB (g := gb511) (o := .cells #[.int .i64 a1_0, .int .i64 a1_1, .int .i64 a1_2, .int .i64 a1_3, .string a1_4] 26 (0, 0)) (pk_ BK511) k_ hk)); (case aO => exact ((Kd.R_nil _ _ _ _ (fun k_ => k_ ≠ gb511)))); (case aS => exact (below_size (pb_ HB))); (case aL => have := LMc96.out; omega); intro v542 w102 ho hb hg hat; rw [← Ny541.out] at ho; replace HO_523000 := Aside0.mk (Kd.R_grown (rk_ HO_523000) hg (fun _ _ => by simp [Value.ownBlock])); replace BK510 := Aside0.mk (blk_grown (g := gb510) (o := .cells #[.slice (some ad524) l0_0.length c0_0, .int .i64 a0_1] 24 (0, 0)) (pk_ BK510) hg (by simp [Value.ownBlock])); replace BK511 := Aside0.mk (blk_grown (g := gb511) (o := .cells #[.int .i64 a1_0, .int .i64 a1_1, .int .i64 a1_2, .int .i64 a1_3, .string a1_4] 26 (0, 0)) (pk_ BK511) hg (by simp [Value.ownBlock])); replace BK522 := Aside0.mk (blk_grown (g := gb522) (o := .cells #[.slice Ao16 t515.length co16, .int .i64 t518, .int .i64 t519, .string t520, .int .i64 t521] 51 (0, 0)) (pk_ BK522) hg (by simp [Value.ownBlock])); replace HB := Aside0.mk (hb); have HO543 := Aside0.mk (ho); clear ho hb hg hat))
           go_ret2
           exact ⟨_, er_, by (with_reducible repeat (first | apply Kd.R_alloc | apply Kd.R_drewN | apply Kd.R_drew)); exact Kd.R_mono HO543.out (fun _ hk => trivial), pb_ HB⟩
          rw [if_neg c96] at H
          exact absurd H (by simp)
         rw [if_neg c89] at H
         exact absurd H (by simp)
        rw [if_neg c88] at H
        exact absurd H (by simp)
       rw [if_neg c87] at H
       exact absurd H (by simp)
      rw [if_neg c86] at H
      have c86b0 : (a1_0 == 4) = false := beq_eq_false_iff_ne.mpr c86
      have c86b1 : (a1_0 != 4) = true := bne_iff_ne.mpr c86
      simp only [Option.some.injEq, Prod.mk.injEq] at H
      obtain ⟨rfl, rfl⟩ := H
      try go_wp2
      replace HO_523000 := rd_ HO_523000
      replace BK510 := Aside0.mk (blk_drew BK510.out)
      replace BK511 := Aside0.mk (blk_drew BK511.out)
      replace BK522 := Aside0.mk (blk_drew BK522.out)
      replace HB := Aside0.mk (below_drew1 HB.out)
      have p524 : 0 ≤ (t523 : Int) := ct_
      have q524 : t523 < (l0_0.length : Int) := ct_
      obtain ⟨ad524, e524, hx524_0, hx524_1⟩ := at_T46 HR0_0.out t523 p524 q524
      have hw524_1 := hx524_1
      have hw524_0 := hx524_0
      cases e524
      replace hx524_0 := pw_cell_below HB.out hx524_0
      replace hx524_1 := pw_cell_below HB.out hx524_1
      replace p524 := eq_true p524
      replace q524 := eq_true q524
      refine start_ (n := 10) (S := fun w' => w'.cell? ⟨gb510, 0, none⟩ = some (.slice (some ad524) l0_0.length c0_0) ∧ w'.cell? ⟨gb510, 1, none⟩ = some (.int .i64 a0_1) ∧ w'.cell? ⟨gb511, 0, none⟩ = some (.int .i64 a1_0) ∧ w'.cell? ⟨gb511, 1, none⟩ = some (.int .i64 a1_1) ∧ w'.cell? ⟨gb511, 2, none⟩ = some (.int .i64 a1_2) ∧ w'.cell? ⟨gb511, 3, none⟩ = some (.int .i64 a1_3) ∧ w'.cell? ⟨gb511, 4, none⟩ = some (.string a1_4) ∧ w'.cell? (ad524.add ((t523).toNat * 2)) = some (.int .i64 ((rd_T46 l0_0 t523).f0)) ∧ w'.cell? ⟨(ad524.add ((t523).toNat * 2)).block, (ad524.add ((t523).toNat * 2)).off + 1, none⟩ = some (.string ((rd_T46 l0_0 t523).f1))) (ds := []) #[false, false, false, false, false, false, false, false, false, false] (by kernel_rfl) rfl rfl ⟨cy_ BK510 0, cy_ BK510 1, cy_ BK511 0, cy_ BK511 1, cy_ BK511 2, cy_ BK511 3, cy_ BK511 4, (pw_cell_below HB.out hw524_0), (pw_cell_below HB.out hw524_1)⟩ (fun hHeld => ?_); refine with_tabW midrangeref04_Undo.tab6 midrangeref04_Undo.bits6 (fun HT_ HW_ => ?_)
      generalize wc.drew = w103 at HO_523000 BK510 BK511 BK522 HB hx524_0 hx524_1 hHeld ⊢
      refine pu_ 0 28 HT_ ?_
      refine pu_ 3 31 HT_ ?_
      refine tk_ 1 29 HT_ HW_ hHeld rfl (Or.inl ⟨by rfl, by rintro w' ⟨s0, s1, s2, s3, s4, s5, s6, s7, s8⟩; go_simp; with_reducible rfl⟩) ?_
      refine tk_ 2 30 HT_ HW_ hHeld rfl (Or.inl ⟨by rfl, by rintro w' ⟨s0, s1, s2, s3, s4, s5, s6, s7, s8⟩; go_simp; with_reducible rfl⟩) ?_
      refine tk_ 4 32 HT_ HW_ hHeld rfl (Or.inl ⟨by rfl, by rintro w' ⟨s0, s1, s2, s3, s4, s5, s6, s7, s8⟩; go_simp; with_reducible rfl⟩) ?_
      refine one_ (i := 5) (N := some 33) #[true, true, true, true, true, true, false, false, false, false] rfl rfl (one_of HT_.out (by kernel_rfl)) (by decide) (fun K hK => ?_)
      refine goes_ Tryd.func19 (by kernel_rfl) rfl #[.agg #[.slice (some ad524) l0_0.length c0_0, .int .i64 a0_1], .int .i64 a1_1] (by rfl) rfl rfl (by (try simp only [List.map_toArray, List.map_cons, List.map_nil]); first | done | rfl | (simp only [List.length_drop, List.length_take]; rfl)) ?_
      with_reducible refine (midrangeref04_Place.calls kj4 _ _ l0_0 a0_1 a1_1 t523 _ ?side1 ?side2 A28.out).mono ?_
      (case side1 => exact pc_ (Kd.C_below HR0_0.out HB.out))
      (case side2 => exact HC0_0.out)
      rintro e w104 ⟨rfl, hb⟩
      refine ⟨_, rfl, ?_⟩
      replace HO_523000 := Aside0.mk (Kd.R_below (rk_ HO_523000) hb)
      replace BK510 := kb_ BK510 hb
      replace BK511 := kb_ BK511 hb
      replace BK522 := kb_ BK522 hb
      replace HB := sb_ HB hb
      (try clear hb)
      (try clear hb2)
      (try clear hk)
      (try clear hi)
      refine hK.out _ _ ⟨cy_ BK510 0, cy_ BK510 1, cy_ BK511 0, cy_ BK511 1, cy_ BK511 2, cy_ BK511 3, cy_ BK511 4, (pw_cell_below HB.out hw524_0), (pw_cell_below HB.out hw524_1)⟩ (fun hHeld => ?_)
      clear hK K
      refine nn_ 33 ?_
      refine pu_ 6 34 HT_ ?_
      refine pu_ 7 35 HT_ ?_
      refine tk_ 8 36 HT_ HW_ hHeld rfl (Or.inl ⟨by rfl, by rintro w' ⟨s0, s1, s2, s3, s4, s5, s6, s7, s8⟩; go_simp; with_reducible rfl⟩) ?_
      refine pu_ 9 7 HT_ ?_
      refine done_ (done_of HT_.out (by kernel_rfl)) ?_
      have hnb105 := NB511_510.out
      have hnc105 := NB510_511.out
      have hnb106 := NB511_522.out
      have hnc106 := NB522_511.out
      have hcz107_0 := cz_ BK511 0 (.int .i64 a1_0)
      have hcz107_1 := cz_ BK511 1 (.int .i64 a1_1)
      have hcz107_2 := cz_ BK511 2 (.int .i64 a1_2)
      have hcz107_3 := cz_ BK511 3 (.int .i64 a1_3)
      have hcz107_4 := cz_ BK511 4 (.string a1_4)
      have hfz107_0 := blk_frozen BK511.out 0
      have hfz107_1 := blk_frozen BK511.out 1
      have hfz107_2 := blk_frozen BK511.out 2
      have hfz107_3 := blk_frozen BK511.out 3
      have hfz107_4 := blk_frozen BK511.out 4
      try go_wp2
      go_ret2
      exact ⟨_, er_, by first | exact Kd.R_nil _ _ _ _ _ | exact Kd.N_nil _ _ _ _ _ | exact Kd.V_nil _ _ _ _ _ | exact Kd.Q_nil _ _ _ _ _ | exact Kd.S_nil _ _ _ _ _, pb_ HB⟩
     rw [if_neg c30] at H
     exact absurd H (by simp)
    rw [if_neg c29] at H
    exact absurd H (by simp)
 rw [if_neg c4] at H
 have c4b0 : (t521 == 0) = false := beq_eq_false_iff_ne.mpr c4
 have c4b1 : (t521 != 0) = true := bne_iff_ne.mpr c4
 simp only [Option.some.injEq, Prod.mk.injEq] at H
 obtain ⟨rfl, rfl⟩ := H
 go_enter Tryd.func9, Tryd.ntmps9
 try go_wp2_with (first | ((with_reducible refine gate_dst (N := 2) rfl ?_); refine bx_ 2 #[.slice A0_0 l0_0.length c0_0, .int .i64 a0_1] 24 ?_; intro gb510 hg w108 hbox hb; have BK510 := Aside0.mk (hbox); have GW510 := gw_ hg HB; have GE510 := gw_ hg HB; replace HB := sb_ HB hb; clear hb hbox hg) | ((with_reducible refine gate_dst (N := 3) rfl ?_); refine bx_ 3 #[.int .i64 a1_0, .int .i64 a1_1, .int .i64 a1_2, .int .i64 a1_3, .string a1_4] 26 ?_; intro gb511 hg w109 hbox hb; have BK511 := Aside0.mk (hbox); have GW511 := gw_ hg HB; have GE511 := gw_ hg HB; replace HB := sb_ HB hb; have NB510_511 := nl_ hg BK510; have NB511_510 := ng_ hg BK510; replace BK510 := kb_ BK510 hb; clear hb hbox hg; have hnb110 := NB510_511.out; have hnc110 := NB511_510.out; have hcz111_0 := cz_ BK510 0 (.slice A0_0 l0_0.length c0_0); have hcz111_1 := cz_ BK510 1 (.int .i64 a0_1); have hfz111_0 := blk_frozen BK510.out 0; have hfz111_1 := blk_frozen BK510.out 1; have hcz112_0 := cz_ BK511 0 (.int .i64 a1_0); have hcz112_1 := cz_ BK511 1 (.int .i64 a1_1); have hcz112_2 := cz_ BK511 2 (.int .i64 a1_2); have hcz112_3 := cz_ BK511 3 (.int .i64 a1_3); have hcz112_4 := cz_ BK511 4 (.string a1_4); have hfz112_0 := blk_frozen BK511.out 0; have hfz112_1 := blk_frozen BK511.out 1; have hfz112_2 := blk_frozen BK511.out 2; have hfz112_3 := blk_frozen BK511.out 3; have hfz112_4 := blk_frozen BK511.out 4) | ((with_reducible refine gate_dst (N := 13) rfl ?_); refine Kd.R_lit k26 _ 26 ?hg (N := 13) ?hd (xs := ([(⟨a1_0, a1_1, a1_2, a1_3, a1_4⟩ : S26)] : List (S26))) (inner := [.int .i64 a1_0, .int .i64 a1_1, .int .i64 a1_2, .int .i64 a1_3, .string a1_4]) (ok := fun _ => True) (okp := fun _ => True) ?hr ?hp (fun _ hk => hk) trivial (Below.refl _ _) (Nat.le_refl _) (by simp) ?_; (case hd => rfl); (case hg => rfl); (case hr => first | (go_simp; done) | (go_simp; rfl)); (case hp => exact (Reps.c5 (show Kd.M k26 _ _ _ (⟨a1_0, a1_1, a1_2, a1_3, a1_4⟩ : S26) [.int .i64 a1_0, .int .i64 a1_1, .int .i64 a1_2, .int .i64 a1_3, .string a1_4] from (k26_mkM _ _ _ (⟨a1_0, a1_1, a1_2, a1_3, a1_4⟩ : S26) )) (Reps.none _ _))); intro v513 w113 ho114 hb hg_ hnew_; clear hg_ hnew_; (first | rw [← Ny512.out] at ho114 | (simp only [Int.reduceToNat] at ho114; rw [← Ny512.out] at ho114)); have HO514 := Aside0.mk (Kd.R_lower (Kd.R_newB ho114 (g := gb511) (o := .cells #[.int .i64 a1_0, .int .i64 a1_1, .int .i64 a1_2, .int .i64 a1_3, .string a1_4] 26 (0, 0)) (pk_ BK511)) (below_size (pb_ HB))); replace BK510 := kb_ BK510 hb; replace BK511 := kb_ BK511 hb; replace HB := sb_ HB hb; clear hb ho114; obtain ⟨Ao115, co115, eo115⟩ := Kd.R_slice HO514.out; subst eo115) | ((with_reducible refine gate_callee (f := 18) rfl ?_); refine gl_ 14 Tryd.func18 #[.agg #[.slice A0_0 l0_0.length c0_0, .int .i64 a0_1], .slice Ao115 y512.length co115] ?_; (with_reducible refine (midrangeref04_Applied.calls k (fun k_ => k_ < w.heap.size) _ _ l0_0 a0_1 _ _ y512 t515 t518 t519 t520 t521 _ ?side1 ?side2 ?side3 A3.out).mono ?_); (case side1 => exact Kd.V_mk HC0_0.out (Kd.F_below (Kd.C_F k46_heap HR0_0.out) (pb_ HB))); (case side2 => exact pc_ (Kd.R_reads' HO514.out).2.2); (case side3 => exact (Kd.R_reads' HO514.out).2.1); rintro e w116 ⟨v516, rfl, ho0, hb⟩; refine ⟨_, rfl, ?_⟩; replace HO514 := Aside0.mk (Kd.R_below (rk_ HO514) hb); have HO517 := Aside0.mk (Kd.R_lower (Kd.R_mono (ok' := fun k_ => True) ho0 (fun _ hk_ => trivial)) (below_size (pb_ HB))); replace BK510 := kb_ BK510 hb; replace BK511 := kb_ BK511 hb; replace HB := sb_ HB hb; (try clear hb); (try clear hb2); (try clear hk); (try clear hi); (try clear ho0)) | ((with_reducible refine gate_dst (N := 6) rfl ?_); refine bx_ 6 #[.slice none 0 0, .int .i64 0, .int .i64 0, .string (⟨#[]⟩ : ByteArray), .int .i64 0] 51 ?_; intro gb522 hg w117 hbox hb; replace HO514 := Aside0.mk (Kd.R_below (rk_ HO514) hb); replace HO517 := Aside0.mk (Kd.R_below (rk_ HO517) hb); have BK522 := Aside0.mk (hbox); have GW522 := gw_ hg HB; have GE522 := gw_ hg HB; replace HB := sb_ HB hb; have NB510_522 := nl_ hg BK510; have NB522_510 := ng_ hg BK510; replace BK510 := kb_ BK510 hb; have NB511_522 := nl_ hg BK511; have NB522_511 := ng_ hg BK511; replace BK511 := kb_ BK511 hb; clear hb hbox hg; obtain ⟨Ao118, co118, eo118⟩ := Kd.R_slice HO517.out; subst eo118; have hnb119 := NB522_510.out; have hnc119 := NB510_522.out; have hnb120 := NB522_511.out; have hnc120 := NB511_522.out; have hcz121_0 := cz_ BK522 0 (.slice none 0 0); have hcz121_1 := cz_ BK522 1 (.int .i64 0); have hcz121_2 := cz_ BK522 2 (.int .i64 0); have hcz121_3 := cz_ BK522 3 (.string (⟨#[]⟩ : ByteArray)); have hcz121_4 := cz_ BK522 4 (.int .i64 0); have hfz121_0 := blk_frozen BK522.out 0; have hfz121_1 := blk_frozen BK522.out 1; have hfz121_2 := blk_frozen BK522.out 2; have hfz121_3 := blk_frozen BK522.out 3; have hfz121_4 := blk_frozen BK522.out 4))
 have n0_ : Aside0 (Kd.R k26 26 (((((w117.setCell ⟨gb522, 0, none⟩ (.slice Ao118 t515.length co118)).setCell ⟨gb522, 1, none⟩ (.int .i64 t518)).setCell ⟨gb522, 2, none⟩ (.int .i64 t519)).setCell ⟨gb522, 3, none⟩ (.string t520)).setCell ⟨gb522, 4, none⟩ (.int .i64 t521)) w.heap.size (fun k_ => k_ ≠ gb511) (.slice Ao115 y512.length co115) y512) := ⟨by (with_reducible repeat (first | apply Kd.R_alloc | apply Kd.R_drewN | apply Kd.R_drew)); exact Kd.R_mono (Kd.R_far (p := ⟨gb522, 4, none⟩) (Kd.R_far (p := ⟨gb522, 3, none⟩) (Kd.R_far (p := ⟨gb522, 2, none⟩) (Kd.R_far (p := ⟨gb522, 1, none⟩) (Kd.R_far (p := ⟨gb522, 0, none⟩) (Kd.R_types HO514.out BK522.out (by decide)) (fun _ hk => hk.2) (.slice Ao118 t515.length co118)) (fun _ hk => hk.2) (.int .i64 t518)) (fun _ hk => hk.2) (.int .i64 t519)) (fun _ hk => hk.2) (.string t520)) (fun _ hk => hk.2) (.int .i64 t521)) (fun _ hk => hk.1.2)⟩
 have n1_ : Aside0 (Kd.R k46 46 (((((w117.setCell ⟨gb522, 0, none⟩ (.slice Ao118 t515.length co118)).setCell ⟨gb522, 1, none⟩ (.int .i64 t518)).setCell ⟨gb522, 2, none⟩ (.int .i64 t519)).setCell ⟨gb522, 3, none⟩ (.string t520)).setCell ⟨gb522, 4, none⟩ (.int .i64 t521)) w.heap.size (fun _ => True) (.slice Ao118 t515.length co118) t515) := ⟨by (with_reducible repeat (first | apply Kd.R_alloc | apply Kd.R_drewN | apply Kd.R_drew)); exact Kd.R_mono (Kd.R_far (p := ⟨gb522, 4, none⟩) (Kd.R_far (p := ⟨gb522, 3, none⟩) (Kd.R_far (p := ⟨gb522, 2, none⟩) (Kd.R_far (p := ⟨gb522, 1, none⟩) (Kd.R_far (p := ⟨gb522, 0, none⟩) (Kd.R_types HO517.out BK522.out (by decide)) (fun _ hk => hk.2) (.slice Ao118 t515.length co118)) (fun _ hk => hk.2) (.int .i64 t518)) (fun _ hk => hk.2) (.int .i64 t519)) (fun _ hk => hk.2) (.string t520)) (fun _ hk => hk.2) (.int .i64 t521)) (fun _ hk => trivial)⟩
 have n2_ : Aside0 ((((((w117.setCell ⟨gb522, 0, none⟩ (.slice Ao118 t515.length co118)).setCell ⟨gb522, 1, none⟩ (.int .i64 t518)).setCell ⟨gb522, 2, none⟩ (.int .i64 t519)).setCell ⟨gb522, 3, none⟩ (.string t520)).setCell ⟨gb522, 4, none⟩ (.int .i64 t521)).heap[gb510]? = some (.cells #[.slice A0_0 l0_0.length c0_0, .int .i64 a0_1] 24 (0, 0))) := ⟨by (with_reducible repeat (first | refine blk_drewN ?_ _ | refine blk_drew ?_ | refine blk_alloc ?_ _)); refine blk_far ?_ NB510_522.out _; (with_reducible repeat (first | refine blk_drewN ?_ _ | refine blk_drew ?_ | refine blk_alloc ?_ _)); refine blk_far ?_ NB510_522.out _; (with_reducible repeat (first | refine blk_drewN ?_ _ | refine blk_drew ?_ | refine blk_alloc ?_ _)); refine blk_far ?_ NB510_522.out _; (with_reducible repeat (first | refine blk_drewN ?_ _ | refine blk_drew ?_ | refine blk_alloc ?_ _)); refine blk_far ?_ NB510_522.out _; (with_reducible repeat (first | refine blk_drewN ?_ _ | refine blk_drew ?_ | refine blk_alloc ?_ _)); refine blk_far ?_ NB510_522.out _; (with_reducible repeat (first | refine blk_drewN ?_ _ | refine blk_drew ?_ | refine blk_alloc ?_ _)); exact BK510.out⟩
 have n3_ : Aside0 ((((((w117.setCell ⟨gb522, 0, none⟩ (.slice Ao118 t515.length co118)).setCell ⟨gb522, 1, none⟩ (.int .i64 t518)).setCell ⟨gb522, 2, none⟩ (.int .i64 t519)).setCell ⟨gb522, 3, none⟩ (.string t520)).setCell ⟨gb522, 4, none⟩ (.int .i64 t521)).heap[gb511]? = some (.cells #[.int .i64 a1_0, .int .i64 a1_1, .int .i64 a1_2, .int .i64 a1_3, .string a1_4] 26 (0, 0))) := ⟨by (with_reducible repeat (first | refine blk_drewN ?_ _ | refine blk_drew ?_ | refine blk_alloc ?_ _)); refine blk_far ?_ NB511_522.out _; (with_reducible repeat (first | refine blk_drewN ?_ _ | refine blk_drew ?_ | refine blk_alloc ?_ _)); refine blk_far ?_ NB511_522.out _; (with_reducible repeat (first | refine blk_drewN ?_ _ | refine blk_drew ?_ | refine blk_alloc ?_ _)); refine blk_far ?_ NB511_522.out _; (with_reducible repeat (first | refine blk_drewN ?_ _ | refine blk_drew ?_ | refine blk_alloc ?_ _)); refine blk_far ?_ NB511_522.out _; (with_reducible repeat (first | refine blk_drewN ?_ _ | refine blk_drew ?_ | refine blk_alloc ?_ _)); refine blk_far ?_ NB511_522.out _; (with_reducible repeat (first | refine blk_drewN ?_ _ | refine blk_drew ?_ | refine blk_alloc ?_ _)); exact BK511.out⟩
 have n4_ : Aside0 ((((((w117.setCell ⟨gb522, 0, none⟩ (.slice Ao118 t515.length co118)).setCell ⟨gb522, 1, none⟩ (.int .i64 t518)).setCell ⟨gb522, 2, none⟩ (.int .i64 t519)).setCell ⟨gb522, 3, none⟩ (.string t520)).setCell ⟨gb522, 4, none⟩ (.int .i64 t521)).heap[gb522]? = some (.cells #[.slice Ao118 t515.length co118, .int .i64 t518, .int .i64 t519, .string t520, .int .i64 t521] 51 (0, 0))) := ⟨bq_ BK522⟩
 have n5_ : Aside0 (Below w.heap.size w (((((w117.setCell ⟨gb522, 0, none⟩ (.slice Ao118 t515.length co118)).setCell ⟨gb522, 1, none⟩ (.int .i64 t518)).setCell ⟨gb522, 2, none⟩ (.int .i64 t519)).setCell ⟨gb522, 3, none⟩ (.string t520)).setCell ⟨gb522, 4, none⟩ (.int .i64 t521))) := ⟨pb_ HB⟩
 (try clear HO514)
 (try clear HO517)
 (try clear BK510)
 (try clear BK511)
 (try clear BK522)
 (try clear HB)
 generalize (((((w117.setCell ⟨gb522, 0, none⟩ (.slice Ao118 t515.length co118)).setCell ⟨gb522, 1, none⟩ (.int .i64 t518)).setCell ⟨gb522, 2, none⟩ (.int .i64 t519)).setCell ⟨gb522, 3, none⟩ (.string t520)).setCell ⟨gb522, 4, none⟩ (.int .i64 t521)) = w122 at n0_ n1_ n2_ n3_ n4_ n5_ ⊢
 have HO514 := n0_
 have HO517 := n1_
 have BK510 := n2_
 have BK511 := n3_
 have BK522 := n4_
 have HB := n5_
 clear n0_ n1_ n2_ n3_ n4_ n5_
 replace HO514 := rd_ HO514
 replace HO517 := rd_ HO517
 replace BK510 := Aside0.mk (blk_drew BK510.out)
 replace BK511 := Aside0.mk (blk_drew BK511.out)
 replace BK522 := Aside0.mk (blk_drew BK522.out)
 replace HB := Aside0.mk (below_drew1 HB.out)
 refine start_ (n := 4) (S := fun w' => w'.cell? ⟨gb522, 0, none⟩ = some (.slice Ao118 t515.length co118) ∧ w'.cell? ⟨gb522, 1, none⟩ = some (.int .i64 t518) ∧ w'.cell? ⟨gb522, 2, none⟩ = some (.int .i64 t519) ∧ w'.cell? ⟨gb522, 3, none⟩ = some (.string t520) ∧ w'.cell? ⟨gb522, 4, none⟩ = some (.int .i64 t521)) (ds := []) #[false, false, false, false] (by kernel_rfl) rfl rfl ⟨cy_ BK522 0, cy_ BK522 1, cy_ BK522 2, cy_ BK522 3, cy_ BK522 4⟩ (fun hHeld => ?_)
 generalize w122.drew = w123 at HO514 HO517 BK510 BK511 BK522 HB hHeld ⊢
 refine pure_ (i := 0) (N := some 18) (v := ?_) (a' := ?_) #[true, false, false, false] rfl rfl (by kernel_rfl) (fun _ _ _ h => h) (Or.inl ⟨by rfl, ?_⟩) ?_ ?_
 rotate_left
 ·
  intro w'
  go_simp
  with_reducible rfl
 rotate_left
 ·
  simp only [Act.put, List.setIfInBounds_toArray, List.set_cons_zero, List.set_cons_succ, i64_w, i32_w]
  rfl
 refine pure_ (i := 2) (N := some 4) (v := ?_) (a' := ?_) #[true, false, true, false] rfl rfl (by kernel_rfl) (fun _ _ _ h => h) (Or.inl ⟨by rfl, ?_⟩) ?_ ?_
 rotate_left
 ·
  intro w'
  go_simp
  with_reducible rfl
 rotate_left
 ·
  simp only [Act.put, List.setIfInBounds_toArray, List.set_cons_zero, List.set_cons_succ, i64_w, i32_w]
  rfl
 refine take_ (i := 1) (N := some 19) (v := ?_) (a' := ?_) #[true, true, true, false] rfl rfl (by kernel_rfl) (fun _ _ _ h => h) (Or.inl ⟨by rfl, ?_⟩) hHeld ?_ ?_
 rotate_left
 ·
  rintro w' ⟨s0, s1, s2, s3, s4⟩
  go_simp
  with_reducible rfl
 rotate_left
 ·
  simp only [Act.put, List.setIfInBounds_toArray, List.set_cons_zero, List.set_cons_succ, i64_w, i32_w]
  rfl
 refine pure_ (i := 3) (N := some 5) (v := ?_) (a' := ?_) #[true, true, true, true] rfl rfl (by kernel_rfl) (fun _ _ _ h => h) (Or.inl ⟨by rfl, ?_⟩) ?_ ?_
 rotate_left
 ·
  intro w'
  go_simp
  with_reducible rfl
 rotate_left
 ·
  simp only [Act.put, List.setIfInBounds_toArray, List.set_cons_zero, List.set_cons_succ, i64_w, i32_w]
  rfl
 refine done_ (by kernel_rfl) ?_
 try go_wp2
 go_ret2
 exact ⟨_, er_, by first | exact Kd.R_nil _ _ _ _ _ | exact Kd.N_nil _ _ _ _ _ | exact Kd.V_nil _ _ _ _ _ | exact Kd.Q_nil _ _ _ _ _ | exact Kd.S_nil _ _ _ _ _, pb_ HB⟩
end Go.Proofs.YtoabahlaicgmjaaDoor.X
end
