-- Texts of this claim joined by merge.py, a program of its author; what this claim does not reach is left out.
import Derived.Test.YtoabahlaicgmjaaDoorMSegmentUndone6
section
namespace Go.Proofs.YtoabahlaicgmjaaDoor.X
open Go.Proofs.YtoabahlaicgmjaaDoor.XW Go.Proofs.YtoabahlaicgmjaaDoor.XS
open Go.RowKit Go.Proofs.YtoabahlaicgmjaaDoorW.PrintWords Go.Proofs.YtoabahlaicgmjaaDoorW.PrintLast Go.Proofs.YtoabahlaicgmjaaDoorW.PrintMore
attribute [local go_sem] max2_int min2_int max_two min_two max_three min_three max_four min_four   -- for this text's walks alone
set_option linter.unusedVariables false
set_option linter.unusedSimpArgs false
def segment_Undo.j0 : Nat → Bool → List (S46) → Int → Int → Int → Int → Int → ByteArray → Option ((List (S26)) × Int)
  | 0, _, _, _, _, _, _, _, _ => none
  | k + 1, x33, x265000, x265001, x266000, x266001, x266002, x266003, x266004 => if x33 = true then (some (([] : List (S26)), 39)) else ((segment_find.f k x265000 x265001 x266001).bind fun bt276 => (if 0 ≤ bt276.1 then (if bt276.1 < (x265000.length : Int) then (if x266000 = 1 then (some ((([(⟨2, x266001, 0, wrap64 ((((rd_T46 x265000 bt276.1).f1).size : Int) / 32), (⟨#[]⟩ : ByteArray)⟩ : S26)] : List (S26))), 0)) else (if x266000 = 2 then (if 0 ≤ (wrap64 (x266003 * 32)) then (if (wrap64 (x266003 * 32)) ≤ (((rd_T46 x265000 bt276.1).f1).size : Int) then (if (((rd_T46 x265000 bt276.1).f1).extract ((wrap64 (x266003 * 32)) : Int).toNat ((rd_T46 x265000 bt276.1).f1).size).toList = ([] : List UInt8) then (some (([] : List (S26)), 0)) else ((some (([(⟨1, x266001, 0, wrap64 (Int.tdiv ((((rd_T46 x265000 bt276.1).f1).size - ((wrap64 (x266003 * 32)) : Int).toNat : Nat) : Int) 32), (⟨#[]⟩ : ByteArray)⟩ : S26)] : List (S26)) : List (S26))).bind fun y282 => ((strings_Trim.f k (((rd_T46 x265000 bt276.1).f1).extract ((wrap64 (x266003 * 32)) : Int).toNat ((rd_T46 x265000 bt276.1).f1).size) (⟨#[0]⟩ : ByteArray)).bind fun t285 => (if t285.toList = ([] : List UInt8) then (some (y282, 0)) else (if y282.length < 2932031007402 then (some ((y282 ++ [(⟨4, x266001, wrap64 (x266003 * 32), 0, ((rd_T46 x265000 bt276.1).f1).extract ((wrap64 (x266003 * 32)) : Int).toNat ((rd_T46 x265000 bt276.1).f1).size⟩ : S26)]), 0)) else (none)))))) else (none)) else (none)) else (if 0 ≤ x266002 then (if x266002 ≤ (wrap64 (x266002 + (x266004.size : Int))) then (if (wrap64 (x266002 + (x266004.size : Int))) ≤ (((rd_T46 x265000 bt276.1).f1).size : Int) then (if (((rd_T46 x265000 bt276.1).f1).extract (x266002 : Int).toNat ((wrap64 (x266002 + (x266004.size : Int))) : Int).toNat).toList = x266004.toList then (some (([] : List (S26)), 0)) else (some ((([(⟨4, x266001, x266002, 0, ((rd_T46 x265000 bt276.1).f1).extract (x266002 : Int).toNat ((wrap64 (x266002 + (x266004.size : Int))) : Int).toNat⟩ : S26)] : List (S26))), 0))) else (none)) else (none)) else (none)))) else (none)) else (none)))
def segment_Undo.f (k : Nat) (l0_0 : List (S46)) (a0_1 : Int) (a1_0 : Int) (a1_1 : Int) (a1_2 : Int) (a1_3 : Int) (a1_4 : ByteArray) : Option ((List (S26)) × Int) := (segment_Applied.f k l0_0 a0_1 (([(⟨a1_0, a1_1, a1_2, a1_3, a1_4⟩ : S26)] : List (S26)))).bind fun bt269 => (if bt269.2.2.2 = 0 then (if a1_0 = 0 then (segment_Undo.j0 k true l0_0 a0_1 a1_0 a1_1 a1_2 a1_3 a1_4) else (segment_Undo.j0 k (a1_0 == 3) l0_0 a0_1 a1_0 a1_1 a1_2 a1_3 a1_4)) else (some (([] : List (S26)), bt269.2.2.2)))
set_option maxHeartbeats 8000000 in
set_option maxRecDepth 100000 in
theorem segment_Undo.calls (k : Nat) (A0_0 : Option Addr) (c0_0 : Nat) (l0_0 : List (S46)) (a0_1 : Int) (a1_0 : Int) (a1_1 : Int) (a1_2 : Int) (a1_3 : Int) (a1_4 : ByteArray) (r1 : List (S26)) (r2 : Int) (w : World) (hr0_0 : Kd.C k46 w A0_0 l0_0.length l0_0) (hc0_0 : l0_0.length ≤ c0_0) (h : segment_Undo.f k l0_0 a0_1 a1_0 a1_1 a1_2 a1_3 a1_4 = some (r1, r2)) :
  Calls Tryd.prog 7 #[.agg #[.slice A0_0 l0_0.length c0_0, .int .i64 a0_1], .agg #[.int .i64 a1_0, .int .i64 a1_1, .int .i64 a1_2, .int .i64 a1_3, .string a1_4]] w fun e w' => ∃ v0_ : Value, e = .returned (.tuple #[v0_, .int .i64 r2]) ∧ Kd.R k26 26 w' w.heap.size (fun _ => True) v0_ r1 ∧ Below w.heap.size w w' := by
 have hu24 := Tryd.underlying24
 have hu26 := Tryd.underlying26
 have HR0_0 := Aside0.mk hr0_0
 have HC0_0 := Aside0.mk hc0_0
 clear hr0_0 hc0_0
 have HB := Aside0.mk (Below.refl w.heap.size w)
 have H : ((segment_Applied.f k l0_0 a0_1 (([(⟨a1_0, a1_1, a1_2, a1_3, a1_4⟩ : S26)] : List (S26)))).bind fun bt269 => (if bt269.2.2.2 = 0 then (if a1_0 = 0 then (segment_Undo.j0 k true l0_0 a0_1 a1_0 a1_1 a1_2 a1_3 a1_4) else (segment_Undo.j0 k (a1_0 == 3) l0_0 a0_1 a1_0 a1_1 a1_2 a1_3 a1_4)) else (some (([] : List (S26)), bt269.2.2.2)))) = some (r1, r2) := h
 clear h
 obtain ⟨y266, hy266⟩ : ∃ y_ : List (S26), y_ = (([(⟨a1_0, a1_1, a1_2, a1_3, a1_4⟩ : S26)] : List (S26))) := ⟨_, rfl⟩
 replace H : ((segment_Applied.f k l0_0 a0_1 y266).bind fun bt269 => (if bt269.2.2.2 = 0 then (if a1_0 = 0 then (segment_Undo.j0 k true l0_0 a0_1 a1_0 a1_1 a1_2 a1_3 a1_4) else (segment_Undo.j0 k (a1_0 == 3) l0_0 a0_1 a1_0 a1_1 a1_2 a1_3 a1_4)) else (some (([] : List (S26)), bt269.2.2.2)))) = some (r1, r2) := by first | (rw [hy266]; with_reducible exact H) | (have H2_ := (Option.bind_some _ _).symm.trans H; rw [hy266]; with_reducible exact H2_) | (have H2_ := (Option.bind_some _ _).symm.trans H; with_reducible exact H2_) | with_reducible exact H | (rw [hy266]; exact H) | exact H
 have Ny266 := Aside0.mk hy266
 clear hy266
 replace H := Option.bind_eq_some_iff.mp H
 obtain ⟨⟨t269, t272, t273, t274⟩, A30, H⟩ := H
 replace H : (if t274 = 0 then (if a1_0 = 0 then (segment_Undo.j0 k true l0_0 a0_1 a1_0 a1_1 a1_2 a1_3 a1_4) else (segment_Undo.j0 k (a1_0 == 3) l0_0 a0_1 a1_0 a1_1 a1_2 a1_3 a1_4)) else (some (([] : List (S26)), t274))) = some (r1, r2) := H
 have A3 := Aside0.mk A30
 clear A30
 by_cases c4 : t274 = 0
 ·
  rw [if_pos c4] at H
  have c4b0 : (t274 == 0) = true := beq_iff_eq.mpr c4
  have c4b1 : (t274 != 0) = false := bne_eq_false_iff_eq.mpr c4
  clear c4
  have HC5 := Aside0.mk H
  clear H
  go_enter Tryd.func7, Tryd.ntmps7
  go_upto_region 4 with (first | ((with_reducible refine gate_dst (N := 2) rfl ?_); refine bx_ 2 #[.slice A0_0 l0_0.length c0_0, .int .i64 a0_1] 24 ?_; intro gb264 hg w6 hbox hb; have BK264 := Aside0.mk (hbox); have GW264 := gw_ hg HB; have GE264 := gw_ hg HB; replace HB := sb_ HB hb; clear hb hbox hg) | ((with_reducible refine gate_dst (N := 3) rfl ?_); refine bx_ 3 #[.int .i64 a1_0, .int .i64 a1_1, .int .i64 a1_2, .int .i64 a1_3, .string a1_4] 26 ?_; intro gb265 hg w7 hbox hb; have BK265 := Aside0.mk (hbox); have GW265 := gw_ hg HB; have GE265 := gw_ hg HB; replace HB := sb_ HB hb; have NB264_265 := nl_ hg BK264; have NB265_264 := ng_ hg BK264; replace BK264 := kb_ BK264 hb; clear hb hbox hg; have hnb8 := NB264_265.out; have hnc8 := NB265_264.out; have hcz9_0 := cz_ BK264 0 (.slice A0_0 l0_0.length c0_0); have hcz9_1 := cz_ BK264 1 (.int .i64 a0_1); have hfz9_0 := blk_frozen BK264.out 0; have hfz9_1 := blk_frozen BK264.out 1; have hcz10_0 := cz_ BK265 0 (.int .i64 a1_0); have hcz10_1 := cz_ BK265 1 (.int .i64 a1_1); have hcz10_2 := cz_ BK265 2 (.int .i64 a1_2); have hcz10_3 := cz_ BK265 3 (.int .i64 a1_3); have hcz10_4 := cz_ BK265 4 (.string a1_4); have hfz10_0 := blk_frozen BK265.out 0; have hfz10_1 := blk_frozen BK265.out 1; have hfz10_2 := blk_frozen BK265.out 2; have hfz10_3 := blk_frozen BK265.out 3; have hfz10_4 := blk_frozen BK265.out 4) | ((with_reducible refine gate_dst (N := 18) rfl ?_); refine Kd.R_lit k26 _ 26 ?hg (N := 18) ?hd (xs := ([(⟨a1_0, a1_1, a1_2, a1_3, a1_4⟩ : S26)] : List (S26))) (inner := [.int .i64 a1_0, .int .i64 a1_1, .int .i64 a1_2, .int .i64 a1_3, .string a1_4]) (ok := fun _ => True) (okp := fun _ => True) ?hr ?hp (fun _ hk => hk) trivial (Below.refl _ _) (Nat.le_refl _) (by simp) ?_; (case hd => rfl); (case hg => rfl); (case hr => first | (go_simp; done) | (go_simp; rfl)); (case hp => exact (Reps.c5 (show Kd.M k26 _ _ _ (⟨a1_0, a1_1, a1_2, a1_3, a1_4⟩ : S26) [.int .i64 a1_0, .int .i64 a1_1, .int .i64 a1_2, .int .i64 a1_3, .string a1_4] from (k26_mkM _ _ _ (⟨a1_0, a1_1, a1_2, a1_3, a1_4⟩ : S26) )) (Reps.none _ _))); intro v267 w11 ho12 hb hg_ hnew_; clear hg_ hnew_; (first | rw [← Ny266.out] at ho12 | (simp only [Int.reduceToNat] at ho12; rw [← Ny266.out] at ho12)); have HO268 := Aside0.mk (Kd.R_lower (Kd.R_newB ho12 (g := gb265) (o := .cells #[.int .i64 a1_0, .int .i64 a1_1, .int .i64 a1_2, .int .i64 a1_3, .string a1_4] 26 (0, 0)) (pk_ BK265)) (below_size (pb_ HB))); replace BK264 := kb_ BK264 hb; replace BK265 := kb_ BK265 hb; replace HB := sb_ HB hb; clear hb ho12; obtain ⟨Ao13, co13, eo13⟩ := Kd.R_slice HO268.out; subst eo13) | ((with_reducible refine gate_callee (f := 11) rfl ?_); refine gl_ 19 Tryd.func11 #[.agg #[.slice A0_0 l0_0.length c0_0, .int .i64 a0_1], .slice Ao13 y266.length co13] ?_; (with_reducible refine (segment_Applied.calls k _ _ l0_0 a0_1 _ _ y266 t269 t272 t273 t274 _ ?side1 ?side2 ?side3 ?side4 A3.out).mono ?_); (case side1 => exact pc_ (Kd.C_below HR0_0.out HB.out)); (case side2 => exact HC0_0.out); (case side3 => exact pc_ (Kd.R_reads' HO268.out).2.2); (case side4 => exact (Kd.R_reads' HO268.out).2.1); rintro e w14 ⟨v270, rfl, ho0, hb⟩; refine ⟨_, rfl, ?_⟩; replace HO268 := Aside0.mk (Kd.R_below (rk_ HO268) hb); have HO271 := Aside0.mk (Kd.R_lower ho0 (below_size (pb_ HB))); replace BK264 := kb_ BK264 hb; replace BK265 := kb_ BK265 hb; replace HB := sb_ HB hb; (try clear hb); (try clear hb2); (try clear hk); (try clear hi); (try clear ho0)) | ((with_reducible refine gate_dst (N := 6) rfl ?_); refine bx_ 6 #[.slice none 0 0, .int .i64 0] 24 ?_; intro gb275 hg w15 hbox hb; replace HO268 := Aside0.mk (Kd.R_below (rk_ HO268) hb); replace HO271 := Aside0.mk (Kd.R_below (rk_ HO271) hb); have BK275 := Aside0.mk (hbox); have GW275 := gw_ hg HB; have GE275 := gw_ hg HB; replace HB := sb_ HB hb; have NB264_275 := nl_ hg BK264; have NB275_264 := ng_ hg BK264; replace BK264 := kb_ BK264 hb; have NB265_275 := nl_ hg BK265; have NB275_265 := ng_ hg BK265; replace BK265 := kb_ BK265 hb; clear hb hbox hg; obtain ⟨Ao16, co16, eo16⟩ := Kd.R_slice HO271.out; subst eo16; have hnb17 := NB275_264.out; have hnc17 := NB264_275.out; have hnb18 := NB275_265.out; have hnc18 := NB265_275.out; have hcz19_0 := cz_ BK275 0 (.slice none 0 0); have hcz19_1 := cz_ BK275 1 (.int .i64 0); have hfz19_0 := blk_frozen BK275.out 0; have hfz19_1 := blk_frozen BK275.out 1))
  (try simp only [Act.put, List.setIfInBounds_toArray, List.set_cons_zero, List.set_cons_succ])
  go_cut [33] (fun v33 wc => ∃ (kq : Nat) (x33_4 : Bool), v33 = .bool x33_4 ∧ Aside0 (segment_Undo.j0 kq x33_4 l0_0 a0_1 a1_0 a1_1 a1_2 a1_3 a1_4 = some (r1, r2)) ∧ Aside0 (kq ≤ k) ∧ Aside0 (Kd.R k46 46 wc w.heap.size (fun _ => True) (.slice Ao16 t269.length co16) t269) ∧ Aside0 (wc.heap[gb264]? = some (.cells #[(.slice A0_0 l0_0.length c0_0), .int .i64 a0_1] 24 (0, 0))) ∧ Aside0 (wc.heap[gb265]? = some (.cells #[.int .i64 a1_0, .int .i64 a1_1, .int .i64 a1_2, .int .i64 a1_3, .string a1_4] 26 (0, 0))) ∧ Aside0 (wc.heap[gb275]? = some (.cells #[(.slice Ao16 t269.length co16), .int .i64 t272] 24 (0, 0))) ∧ Aside0 (Below w.heap.size w wc))
  case first =>
   have H := HC5.out
   clear HC5
   by_cases c20 : a1_0 = 0
   ·
    rw [if_pos c20] at H
    have c20b0 : (a1_0 == 0) = true := beq_iff_eq.mpr c20
    have c20b1 : (a1_0 != 0) = false := bne_eq_false_iff_eq.mpr c20
    clear c20
    (first | rw [c20b0] | (simp only [i64_w, i32_w]; rw [c20b0]) | skip)
    have H' := Aside0.mk H
    clear H
    have hnb21 := NB265_264.out
    have hnc21 := NB264_265.out
    have hnb22 := NB265_275.out
    have hnc22 := NB275_265.out
    have hcz23_0 := cz_ BK265 0 (.int .i64 a1_0)
    have hcz23_1 := cz_ BK265 1 (.int .i64 a1_1)
    have hcz23_2 := cz_ BK265 2 (.int .i64 a1_2)
    have hcz23_3 := cz_ BK265 3 (.int .i64 a1_3)
    have hcz23_4 := cz_ BK265 4 (.string a1_4)
    have hfz23_0 := blk_frozen BK265.out 0
    have hfz23_1 := blk_frozen BK265.out 1
    have hfz23_2 := blk_frozen BK265.out 2
    have hfz23_3 := blk_frozen BK265.out 3
    have hfz23_4 := blk_frozen BK265.out 4
    go_wp2
    go_meet
    case rel => exact ⟨_, (true), rl_, H', ⟨by first | omega | exact Nat.le_refl _⟩, ⟨by (with_reducible repeat (first | apply Kd.R_alloc | apply Kd.R_drewN | apply Kd.R_drew)); exact Kd.R_mono (Kd.R_far (p := ⟨gb275, 1, none⟩) (Kd.R_far (p := ⟨gb275, 0, none⟩) (Kd.R_types HO271.out BK275.out (by decide)) (fun _ hk => hk.2) (.slice Ao16 t269.length co16)) (fun _ hk => hk.2) (.int .i64 t272)) (fun _ hk => trivial)⟩, ⟨by (with_reducible repeat (first | refine blk_drewN ?_ _ | refine blk_drew ?_ | refine blk_alloc ?_ _)); refine blk_far ?_ NB264_275.out _; (with_reducible repeat (first | refine blk_drewN ?_ _ | refine blk_drew ?_ | refine blk_alloc ?_ _)); refine blk_far ?_ NB264_275.out _; (with_reducible repeat (first | refine blk_drewN ?_ _ | refine blk_drew ?_ | refine blk_alloc ?_ _)); exact BK264.out⟩, ⟨by (with_reducible repeat (first | refine blk_drewN ?_ _ | refine blk_drew ?_ | refine blk_alloc ?_ _)); refine blk_far ?_ NB265_275.out _; (with_reducible repeat (first | refine blk_drewN ?_ _ | refine blk_drew ?_ | refine blk_alloc ?_ _)); refine blk_far ?_ NB265_275.out _; (with_reducible repeat (first | refine blk_drewN ?_ _ | refine blk_drew ?_ | refine blk_alloc ?_ _)); exact BK265.out⟩, ⟨bq_ BK275⟩, ⟨pb_ HB⟩⟩
   rw [if_neg c20] at H
   have c20b0 : (a1_0 == 0) = false := beq_eq_false_iff_ne.mpr c20
   have c20b1 : (a1_0 != 0) = true := bne_iff_ne.mpr c20
   (first | rw [c20b0] | (simp only [i64_w, i32_w]; rw [c20b0]) | skip)
   have H' := Aside0.mk H
   clear H
   have hnb24 := NB265_264.out
   have hnc24 := NB264_265.out
   have hnb25 := NB265_275.out
   have hnc25 := NB275_265.out
   have hcz26_0 := cz_ BK265 0 (.int .i64 a1_0)
   have hcz26_1 := cz_ BK265 1 (.int .i64 a1_1)
   have hcz26_2 := cz_ BK265 2 (.int .i64 a1_2)
   have hcz26_3 := cz_ BK265 3 (.int .i64 a1_3)
   have hcz26_4 := cz_ BK265 4 (.string a1_4)
   have hfz26_0 := blk_frozen BK265.out 0
   have hfz26_1 := blk_frozen BK265.out 1
   have hfz26_2 := blk_frozen BK265.out 2
   have hfz26_3 := blk_frozen BK265.out 3
   have hfz26_4 := blk_frozen BK265.out 4
   go_wp2
   go_meet
   case rel => exact ⟨_, ((a1_0 == 3)), rl_, H', ⟨by first | omega | exact Nat.le_refl _⟩, ⟨by (with_reducible repeat (first | apply Kd.R_alloc | apply Kd.R_drewN | apply Kd.R_drew)); exact Kd.R_mono (Kd.R_far (p := ⟨gb275, 1, none⟩) (Kd.R_far (p := ⟨gb275, 0, none⟩) (Kd.R_types HO271.out BK275.out (by decide)) (fun _ hk => hk.2) (.slice Ao16 t269.length co16)) (fun _ hk => hk.2) (.int .i64 t272)) (fun _ hk => trivial)⟩, ⟨by (with_reducible repeat (first | refine blk_drewN ?_ _ | refine blk_drew ?_ | refine blk_alloc ?_ _)); refine blk_far ?_ NB264_275.out _; (with_reducible repeat (first | refine blk_drewN ?_ _ | refine blk_drew ?_ | refine blk_alloc ?_ _)); refine blk_far ?_ NB264_275.out _; (with_reducible repeat (first | refine blk_drewN ?_ _ | refine blk_drew ?_ | refine blk_alloc ?_ _)); exact BK264.out⟩, ⟨by (with_reducible repeat (first | refine blk_drewN ?_ _ | refine blk_drew ?_ | refine blk_alloc ?_ _)); refine blk_far ?_ NB265_275.out _; (with_reducible repeat (first | refine blk_drewN ?_ _ | refine blk_drew ?_ | refine blk_alloc ?_ _)); refine blk_far ?_ NB265_275.out _; (with_reducible repeat (first | refine blk_drewN ?_ _ | refine blk_drew ?_ | refine blk_alloc ?_ _)); exact BK265.out⟩, ⟨bq_ BK275⟩, ⟨pb_ HB⟩⟩
  case rest =>
   clear HC5
   try clear c1
   try clear c2
   try clear p2
   try clear c4
   try clear c4b0
   try clear c4b1
   try clear c5
   try clear c7
   try clear c8
   try clear c11
   try clear c17
   try clear c18
   try clear c20
   try clear c20b0
   try clear c20b1
   try clear c21
   try clear c22
   try clear c24
   try clear c25
   try clear hcz10_0
   try clear hcz10_1
   try clear hcz10_2
   try clear hcz10_3
   try clear hcz10_4
   try clear hcz19_0
   try clear hcz19_1
   try clear hcz23_0
   try clear hcz23_1
   try clear hcz23_2
   try clear hcz23_3
   try clear hcz23_4
   try clear hcz26_0
   try clear hcz26_1
   try clear hcz26_2
   try clear hcz26_3
   try clear hcz26_4
   try clear hcz9_0
   try clear hcz9_1
   try clear hfz10_0
   try clear hfz10_1
   try clear hfz10_2
   try clear hfz10_3
   try clear hfz10_4
   try clear hfz19_0
   try clear hfz19_1
   try clear hfz23_0
   try clear hfz23_1
   try clear hfz23_2
   try clear hfz23_3
   try clear hfz23_4
   try clear hfz26_0
   try clear hfz26_1
   try clear hfz26_2
   try clear hfz26_3
   try clear hfz26_4
   try clear hfz9_0
   try clear hfz9_1
   obtain ⟨kq, x33_4, rfl, HA, HJ4, HO_276000, BK264, BK265, BK275, HB⟩ := hcut
   cases kq with
   | zero => exact absurd HA.out (by simp [segment_Undo.j0])
   | succ kj4 =>
    have H := HA.out
    clear HA
    simp only [segment_Undo.j0] at H
    by_cases c27 : x33_4 = true
    ·
     subst c27
     have H1 : (some (([] : List (S26)), 39)) = some (r1, r2) := by rw [if_pos rfl] at H; exact H
     clear H
     have H := H1
     clear H1
     simp only [Option.some.injEq, Prod.mk.injEq] at H
     obtain ⟨rfl, rfl⟩ := H
     go_wp2
     go_ret2
     exact ⟨_, er_, by first | exact Kd.R_nil _ _ _ _ _ | exact Kd.N_nil _ _ _ _ _ | exact Kd.V_nil _ _ _ _ _ | exact Kd.Q_nil _ _ _ _ _ | exact Kd.S_nil _ _ _ _ _, pb_ HB⟩
    replace c27 := Bool.eq_false_iff.mpr c27
    subst c27
    have H1 : ((segment_find.f kj4 l0_0 a0_1 a1_1).bind fun bt276 => (if 0 ≤ bt276.1 then (if bt276.1 < (l0_0.length : Int) then (if a1_0 = 1 then (some ((([(⟨2, a1_1, 0, wrap64 ((((rd_T46 l0_0 bt276.1).f1).size : Int) / 32), (⟨#[]⟩ : ByteArray)⟩ : S26)] : List (S26))), 0)) else (if a1_0 = 2 then (if 0 ≤ (wrap64 (a1_3 * 32)) then (if (wrap64 (a1_3 * 32)) ≤ (((rd_T46 l0_0 bt276.1).f1).size : Int) then (if (((rd_T46 l0_0 bt276.1).f1).extract ((wrap64 (a1_3 * 32)) : Int).toNat ((rd_T46 l0_0 bt276.1).f1).size).toList = ([] : List UInt8) then (some (([] : List (S26)), 0)) else ((some (([(⟨1, a1_1, 0, wrap64 (Int.tdiv ((((rd_T46 l0_0 bt276.1).f1).size - ((wrap64 (a1_3 * 32)) : Int).toNat : Nat) : Int) 32), (⟨#[]⟩ : ByteArray)⟩ : S26)] : List (S26)) : List (S26))).bind fun y282 => ((strings_Trim.f kj4 (((rd_T46 l0_0 bt276.1).f1).extract ((wrap64 (a1_3 * 32)) : Int).toNat ((rd_T46 l0_0 bt276.1).f1).size) (⟨#[0]⟩ : ByteArray)).bind fun t285 => (if t285.toList = ([] : List UInt8) then (some (y282, 0)) else (if y282.length < 2932031007402 then (some ((y282 ++ [(⟨4, a1_1, wrap64 (a1_3 * 32), 0, ((rd_T46 l0_0 bt276.1).f1).extract ((wrap64 (a1_3 * 32)) : Int).toNat ((rd_T46 l0_0 bt276.1).f1).size⟩ : S26)]), 0)) else (none)))))) else (none)) else (none)) else (if 0 ≤ a1_2 then (if a1_2 ≤ (wrap64 (a1_2 + (a1_4.size : Int))) then (if (wrap64 (a1_2 + (a1_4.size : Int))) ≤ (((rd_T46 l0_0 bt276.1).f1).size : Int) then (if (((rd_T46 l0_0 bt276.1).f1).extract (a1_2 : Int).toNat ((wrap64 (a1_2 + (a1_4.size : Int))) : Int).toNat).toList = a1_4.toList then (some (([] : List (S26)), 0)) else (some ((([(⟨4, a1_1, a1_2, 0, ((rd_T46 l0_0 bt276.1).f1).extract (a1_2 : Int).toNat ((wrap64 (a1_2 + (a1_4.size : Int))) : Int).toNat⟩ : S26)] : List (S26))), 0))) else (none)) else (none)) else (none)))) else (none)) else (none))) = some (r1, r2) := by rw [if_neg (show ¬ (false = true) by decide)] at H; exact H
    clear H
    have H := H1
    clear H1
    replace H := Option.bind_eq_some_iff.mp H
    obtain ⟨⟨t276, t277⟩, A280, H⟩ := H
    replace H : (if 0 ≤ t276 then (if t276 < (l0_0.length : Int) then (if a1_0 = 1 then (some ((([(⟨2, a1_1, 0, wrap64 ((((rd_T46 l0_0 t276).f1).size : Int) / 32), (⟨#[]⟩ : ByteArray)⟩ : S26)] : List (S26))), 0)) else (if a1_0 = 2 then (if 0 ≤ (wrap64 (a1_3 * 32)) then (if (wrap64 (a1_3 * 32)) ≤ (((rd_T46 l0_0 t276).f1).size : Int) then (if (((rd_T46 l0_0 t276).f1).extract ((wrap64 (a1_3 * 32)) : Int).toNat ((rd_T46 l0_0 t276).f1).size).toList = ([] : List UInt8) then (some (([] : List (S26)), 0)) else ((some (([(⟨1, a1_1, 0, wrap64 (Int.tdiv ((((rd_T46 l0_0 t276).f1).size - ((wrap64 (a1_3 * 32)) : Int).toNat : Nat) : Int) 32), (⟨#[]⟩ : ByteArray)⟩ : S26)] : List (S26)) : List (S26))).bind fun y282 => ((strings_Trim.f kj4 (((rd_T46 l0_0 t276).f1).extract ((wrap64 (a1_3 * 32)) : Int).toNat ((rd_T46 l0_0 t276).f1).size) (⟨#[0]⟩ : ByteArray)).bind fun t285 => (if t285.toList = ([] : List UInt8) then (some (y282, 0)) else (if y282.length < 2932031007402 then (some ((y282 ++ [(⟨4, a1_1, wrap64 (a1_3 * 32), 0, ((rd_T46 l0_0 t276).f1).extract ((wrap64 (a1_3 * 32)) : Int).toNat ((rd_T46 l0_0 t276).f1).size⟩ : S26)]), 0)) else (none)))))) else (none)) else (none)) else (if 0 ≤ a1_2 then (if a1_2 ≤ (wrap64 (a1_2 + (a1_4.size : Int))) then (if (wrap64 (a1_2 + (a1_4.size : Int))) ≤ (((rd_T46 l0_0 t276).f1).size : Int) then (if (((rd_T46 l0_0 t276).f1).extract (a1_2 : Int).toNat ((wrap64 (a1_2 + (a1_4.size : Int))) : Int).toNat).toList = a1_4.toList then (some (([] : List (S26)), 0)) else (some ((([(⟨4, a1_1, a1_2, 0, ((rd_T46 l0_0 t276).f1).extract (a1_2 : Int).toNat ((wrap64 (a1_2 + (a1_4.size : Int))) : Int).toNat⟩ : S26)] : List (S26))), 0))) else (none)) else (none)) else (none)))) else (none)) else (none)) = some (r1, r2) := H
    have A28 := Aside0.mk A280
    clear A280
    by_cases c29 : 0 ≤ t276
    ·
     rw [if_pos c29] at H
     have c29b0 : decide (0 ≤ t276) = true := decide_eq_true c29
     clear c29
     by_cases c30 : t276 < (l0_0.length : Int)
     ·
      rw [if_pos c30] at H
      have c30b0 : decide (t276 < (l0_0.length : Int)) = true := decide_eq_true c30
      clear c30
      by_cases c31 : a1_0 = 1
      ·
       rw [if_pos c31] at H
       have c31b0 : (a1_0 == 1) = true := beq_iff_eq.mpr c31
       have c31b1 : (a1_0 != 1) = false := bne_eq_false_iff_eq.mpr c31
       clear c31
       obtain ⟨y279, hy279⟩ : ∃ y_ : List (S26), y_ = (([(⟨2, a1_1, 0, wrap64 ((((rd_T46 l0_0 t276).f1).size : Int) / 32), (⟨#[]⟩ : ByteArray)⟩ : S26)] : List (S26))) := ⟨_, rfl⟩
       replace H : (some (y279, 0)) = some (r1, r2) := by first | (rw [hy279]; with_reducible exact H) | (have H2_ := (Option.bind_some _ _).symm.trans H; rw [hy279]; with_reducible exact H2_) | (have H2_ := (Option.bind_some _ _).symm.trans H; with_reducible exact H2_) | with_reducible exact H | (rw [hy279]; exact H) | exact H
       have Ny279 := Aside0.mk hy279
       clear hy279
       simp only [Option.some.injEq, Prod.mk.injEq] at H
       obtain ⟨rfl, rfl⟩ := H
       have hnb32 := NB264_265.out
       have hnc32 := NB265_264.out
       have hnb33 := NB264_275.out
       have hnc33 := NB275_264.out
       have hcz34_0 := cz_ BK264 0 (.slice A0_0 l0_0.length c0_0)
       have hcz34_1 := cz_ BK264 1 (.int .i64 a0_1)
       have hfz34_0 := blk_frozen BK264.out 0
       have hfz34_1 := blk_frozen BK264.out 1
       have hnb35 := NB265_275.out
       have hnc35 := NB275_265.out
       have hcz36_0 := cz_ BK265 0 (.int .i64 a1_0)
       have hcz36_1 := cz_ BK265 1 (.int .i64 a1_1)
       have hcz36_2 := cz_ BK265 2 (.int .i64 a1_2)
       have hcz36_3 := cz_ BK265 3 (.int .i64 a1_3)
       have hcz36_4 := cz_ BK265 4 (.string a1_4)
       have hfz36_0 := blk_frozen BK265.out 0
       have hfz36_1 := blk_frozen BK265.out 1
       have hfz36_2 := blk_frozen BK265.out 2
       have hfz36_3 := blk_frozen BK265.out 3
       have hfz36_4 := blk_frozen BK265.out 4
       go_wp2_with (first | ((with_reducible refine gate_callee (f := 16) rfl ?_); refine gl_ 38 Tryd.func16 #[.agg #[.slice A0_0 l0_0.length c0_0, .int .i64 a0_1], .int .i64 a1_1] ?_; (with_reducible refine (segment_find.calls kj4 _ _ l0_0 a0_1 a1_1 t276 t277 _ ?side1 ?side2 A28.out).mono ?_); (case side1 => exact pc_ (Kd.C_below HR0_0.out HB.out)); (case side2 => exact HC0_0.out); rintro e w37 ⟨rfl, hb⟩; refine ⟨_, rfl, ?_⟩; replace HO_276000 := Aside0.mk (Kd.R_below (rk_ HO_276000) hb); replace BK264 := kb_ BK264 hb; replace BK265 := kb_ BK265 hb; replace BK275 := kb_ BK275 hb; replace HB := sb_ HB hb; (try clear hb); (try clear hb2); (try clear hk); (try clear hi); have hcz38_0 := cz_ BK264 0 (.slice A0_0 l0_0.length c0_0); have hcz38_1 := cz_ BK264 1 (.int .i64 a0_1); have hfz38_0 := blk_frozen BK264.out 0; have hfz38_1 := blk_frozen BK264.out 1; have p278 : 0 ≤ (t276 : Int) := ct_; have q278 : t276 < (l0_0.length : Int) := ct_; obtain ⟨ad278, e278, hx278_0, hx278_1⟩ := at_T46 HR0_0.out t276 p278 q278; cases e278; replace hx278_0 := pw_cell_below HB.out hx278_0; replace hx278_1 := pw_cell_below HB.out hx278_1; replace p278 := eq_true p278; replace q278 := eq_true q278; have hcz39_0 := cz_ BK265 0 (.int .i64 a1_0); have hcz39_1 := cz_ BK265 1 (.int .i64 a1_1); have hcz39_2 := cz_ BK265 2 (.int .i64 a1_2); have hcz39_3 := cz_ BK265 3 (.int .i64 a1_3); have hcz39_4 := cz_ BK265 4 (.string a1_4); have hfz39_0 := blk_frozen BK265.out 0; have hfz39_1 := blk_frozen BK265.out 1; have hfz39_2 := blk_frozen BK265.out 2; have hfz39_3 := blk_frozen BK265.out 3; have hfz39_4 := blk_frozen BK265.out 4) | ((with_reducible refine gate_dst (N := 57) rfl ?_); refine Kd.R_lit k26 _ 26 ?hg (N := 57) ?hd (xs := ([(⟨2, a1_1, 0, wrap64 ((((rd_T46 l0_0 t276).f1).size : Int) / 32), (⟨#[]⟩ : ByteArray)⟩ : S26)] : List (S26))) (inner := [.int .i64 2, .int .i64 a1_1, .int .i64 0, .int .i64 (wrap64 ((((rd_T46 l0_0 t276).f1).size : Int) / 32)), .string (⟨#[]⟩ : ByteArray)]) (ok := fun _ => True) (okp := fun _ => True) ?hr ?hp (fun _ hk => hk) trivial (Below.refl _ _) (Nat.le_refl _) (by simp) ?_; (case hd => rfl); (case hg => rfl); (case hr => first | (go_simp; done) | (go_simp; rfl)); (case hp => exact (Reps.c5 (show Kd.M k26 _ _ _ (⟨2, a1_1, 0, wrap64 ((((rd_T46 l0_0 t276).f1).size : Int) / 32), (⟨#[]⟩ : ByteArray)⟩ : S26) [.int .i64 2, .int .i64 a1_1, .int .i64 0, .int .i64 (wrap64 ((((rd_T46 l0_0 t276).f1).size : Int) / 32)), .string (⟨#[]⟩ : ByteArray)] from (k26_mkM _ _ _ (⟨2, a1_1, 0, wrap64 ((((rd_T46 l0_0 t276).f1).size : Int) / 32), (⟨#[]⟩ : ByteArray)⟩ : S26) )) (Reps.none _ _))); intro v280 w40 ho41 hb hg_ hnew_; clear hg_ hnew_; (first | rw [← Ny279.out] at ho41 | (simp only [Int.reduceToNat] at ho41; rw [← Ny279.out] at ho41)); replace HO_276000 := Aside0.mk (Kd.R_below (rk_ HO_276000) hb); have HO281 := Aside0.mk (Kd.R_lower (Kd.R_newB ho41 (g := gb265) (o := .cells #[.int .i64 a1_0, .int .i64 a1_1, .int .i64 a1_2, .int .i64 a1_3, .string a1_4] 26 (0, 0)) (pk_ BK265)) (below_size (pb_ HB))); replace BK264 := kb_ BK264 hb; replace BK265 := kb_ BK265 hb; replace BK275 := kb_ BK275 hb; replace HB := sb_ HB hb; clear hb ho41))
       go_ret2
       exact ⟨_, er_, by (with_reducible repeat (first | apply Kd.R_alloc | apply Kd.R_drewN | apply Kd.R_drew)); exact Kd.R_mono HO281.out (fun _ hk => trivial), pb_ HB⟩
      rw [if_neg c31] at H
      have c31b0 : (a1_0 == 1) = false := beq_eq_false_iff_ne.mpr c31
      have c31b1 : (a1_0 != 1) = true := bne_iff_ne.mpr c31
      by_cases c42 : a1_0 = 2
      ·
       rw [if_pos c42] at H
       have c42b0 : (a1_0 == 2) = true := beq_iff_eq.mpr c42
       have c42b1 : (a1_0 != 2) = false := bne_eq_false_iff_eq.mpr c42
       clear c42
       obtain ⟨ji43, hji43⟩ : ∃ j_ : Int, (wrap64 (a1_3 * 32)) = j_ := ⟨_, rfl⟩
       replace H : (if 0 ≤ (ji43) then (if (ji43) ≤ (((rd_T46 l0_0 t276).f1).size : Int) then (if (((rd_T46 l0_0 t276).f1).extract ((ji43) : Int).toNat ((rd_T46 l0_0 t276).f1).size).toList = ([] : List UInt8) then (some (([] : List (S26)), 0)) else ((some (([(⟨1, a1_1, 0, wrap64 (Int.tdiv ((((rd_T46 l0_0 t276).f1).size - ((ji43) : Int).toNat : Nat) : Int) 32), (⟨#[]⟩ : ByteArray)⟩ : S26)] : List (S26)) : List (S26))).bind fun y282 => ((strings_Trim.f kj4 (((rd_T46 l0_0 t276).f1).extract ((ji43) : Int).toNat ((rd_T46 l0_0 t276).f1).size) (⟨#[0]⟩ : ByteArray)).bind fun t285 => (if t285.toList = ([] : List UInt8) then (some (y282, 0)) else (if y282.length < 2932031007402 then (some ((y282 ++ [(⟨4, a1_1, ji43, 0, ((rd_T46 l0_0 t276).f1).extract ((ji43) : Int).toNat ((rd_T46 l0_0 t276).f1).size⟩ : S26)]), 0)) else (none)))))) else (none)) else (none)) = some (r1, r2) := by first | (rw [hji43] at H; exact H) | (simp only [hji43] at H ⊢; exact H)
       (try rw [hji43] at A28)
       have hji43w : (IntKind.i64.wrap (a1_3 * 32)) = ji43 := (i64_w _).trans hji43
       by_cases c44 : 0 ≤ (ji43)
       ·
        rw [if_pos c44] at H
        have c44b0 := eq_true c44
        have c44b1 : decide (0 ≤ (ji43)) = true := decide_eq_true c44
        clear c44
        by_cases c45 : (ji43) ≤ (((rd_T46 l0_0 t276).f1).size : Int)
        ·
         rw [if_pos c45] at H
         have c45b0 := eq_true c45
         have c45b1 : decide ((ji43) ≤ (((rd_T46 l0_0 t276).f1).size : Int)) = true := decide_eq_true c45
         clear c45
         by_cases c46 : (((rd_T46 l0_0 t276).f1).extract ((ji43) : Int).toNat ((rd_T46 l0_0 t276).f1).size).toList = ([] : List UInt8)
         ·
          rw [if_pos c46] at H
          have c46b0 : ((((rd_T46 l0_0 t276).f1).extract ((ji43) : Int).toNat ((rd_T46 l0_0 t276).f1).size).toList == ([] : List UInt8)) = true := beq_iff_eq.mpr c46
          have c46b1 : ((((rd_T46 l0_0 t276).f1).extract ((ji43) : Int).toNat ((rd_T46 l0_0 t276).f1).size).toList != ([] : List UInt8)) = false := bne_eq_false_iff_eq.mpr c46
          clear c46
          simp only [Option.some.injEq, Prod.mk.injEq] at H
          obtain ⟨rfl, rfl⟩ := H
          have hnb47 := NB264_265.out
          have hnc47 := NB265_264.out
          have hnb48 := NB264_275.out
          have hnc48 := NB275_264.out
          have hcz49_0 := cz_ BK264 0 (.slice A0_0 l0_0.length c0_0)
          have hcz49_1 := cz_ BK264 1 (.int .i64 a0_1)
          have hfz49_0 := blk_frozen BK264.out 0
          have hfz49_1 := blk_frozen BK264.out 1
          have hnb50 := NB265_275.out
          have hnc50 := NB275_265.out
          have hcz51_0 := cz_ BK265 0 (.int .i64 a1_0)
          have hcz51_1 := cz_ BK265 1 (.int .i64 a1_1)
          have hcz51_2 := cz_ BK265 2 (.int .i64 a1_2)
          have hcz51_3 := cz_ BK265 3 (.int .i64 a1_3)
          have hcz51_4 := cz_ BK265 4 (.string a1_4)
          have hfz51_0 := blk_frozen BK265.out 0
          have hfz51_1 := blk_frozen BK265.out 1
          have hfz51_2 := blk_frozen BK265.out 2
          have hfz51_3 := blk_frozen BK265.out 3
          have hfz51_4 := blk_frozen BK265.out 4
          go_wp2_with (first | ((with_reducible refine gate_callee (f := 16) rfl ?_); refine gl_ 38 Tryd.func16 #[.agg #[.slice A0_0 l0_0.length c0_0, .int .i64 a0_1], .int .i64 a1_1] ?_; (with_reducible refine (segment_find.calls kj4 _ _ l0_0 a0_1 a1_1 t276 t277 _ ?side1 ?side2 A28.out).mono ?_); (case side1 => exact pc_ (Kd.C_below HR0_0.out HB.out)); (case side2 => exact HC0_0.out); rintro e w52 ⟨rfl, hb⟩; refine ⟨_, rfl, ?_⟩; replace HO_276000 := Aside0.mk (Kd.R_below (rk_ HO_276000) hb); replace BK264 := kb_ BK264 hb; replace BK265 := kb_ BK265 hb; replace BK275 := kb_ BK275 hb; replace HB := sb_ HB hb; (try clear hb); (try clear hb2); (try clear hk); (try clear hi); have hcz53_0 := cz_ BK264 0 (.slice A0_0 l0_0.length c0_0); have hcz53_1 := cz_ BK264 1 (.int .i64 a0_1); have hfz53_0 := blk_frozen BK264.out 0; have hfz53_1 := blk_frozen BK264.out 1; have p278 : 0 ≤ (t276 : Int) := ct_; have q278 : t276 < (l0_0.length : Int) := ct_; obtain ⟨ad278, e278, hx278_0, hx278_1⟩ := at_T46 HR0_0.out t276 p278 q278; cases e278; replace hx278_0 := pw_cell_below HB.out hx278_0; replace hx278_1 := pw_cell_below HB.out hx278_1; replace p278 := eq_true p278; replace q278 := eq_true q278; have hcz54_0 := cz_ BK265 0 (.int .i64 a1_0); have hcz54_1 := cz_ BK265 1 (.int .i64 a1_1); have hcz54_2 := cz_ BK265 2 (.int .i64 a1_2); have hcz54_3 := cz_ BK265 3 (.int .i64 a1_3); have hcz54_4 := cz_ BK265 4 (.string a1_4); have hfz54_0 := blk_frozen BK265.out 0; have hfz54_1 := blk_frozen BK265.out 1; have hfz54_2 := blk_frozen BK265.out 2; have hfz54_3 := blk_frozen BK265.out 3; have hfz54_4 := blk_frozen BK265.out 4))
          go_ret2
          exact ⟨_, by first | rfl | (simp [errW_none, errW_some] <;> rfl) | (simp only [← hji43]; first | rfl | (simp [errW_none, errW_some] <;> rfl)) | (simp [*, errW_none, errW_some] <;> rfl), by first | exact Kd.R_nil _ _ _ _ _ | exact Kd.N_nil _ _ _ _ _ | exact Kd.V_nil _ _ _ _ _ | exact Kd.Q_nil _ _ _ _ _ | exact Kd.S_nil _ _ _ _ _, pb_ HB⟩
         rw [if_neg c46] at H
         have c46b0 : ((((rd_T46 l0_0 t276).f1).extract ((ji43) : Int).toNat ((rd_T46 l0_0 t276).f1).size).toList == ([] : List UInt8)) = false := beq_eq_false_iff_ne.mpr c46
         have c46b1 : ((((rd_T46 l0_0 t276).f1).extract ((ji43) : Int).toNat ((rd_T46 l0_0 t276).f1).size).toList != ([] : List UInt8)) = true := bne_iff_ne.mpr c46
         obtain ⟨y282, hy282⟩ : ∃ y_ : List (S26), y_ = (([(⟨1, a1_1, 0, wrap64 (Int.tdiv ((((rd_T46 l0_0 t276).f1).size - ((ji43) : Int).toNat : Nat) : Int) 32), (⟨#[]⟩ : ByteArray)⟩ : S26)] : List (S26))) := ⟨_, rfl⟩
         replace H : ((strings_Trim.f kj4 (((rd_T46 l0_0 t276).f1).extract ((ji43) : Int).toNat ((rd_T46 l0_0 t276).f1).size) (⟨#[0]⟩ : ByteArray)).bind fun t285 => (if t285.toList = ([] : List UInt8) then (some (y282, 0)) else (if y282.length < 2932031007402 then (some ((y282 ++ [(⟨4, a1_1, ji43, 0, ((rd_T46 l0_0 t276).f1).extract ((ji43) : Int).toNat ((rd_T46 l0_0 t276).f1).size⟩ : S26)]), 0)) else (none)))) = some (r1, r2) := by first | (rw [hy282]; with_reducible exact H) | (have H2_ := (Option.bind_some _ _).symm.trans H; rw [hy282]; with_reducible exact H2_) | (have H2_ := (Option.bind_some _ _).symm.trans H; with_reducible exact H2_) | with_reducible exact H | (rw [hy282]; exact H) | exact H
         have Ny282 := Aside0.mk hy282
         clear hy282
         replace H := Option.bind_eq_some_iff.mp H
         obtain ⟨t285, A550, H⟩ := H
         replace H : (if t285.toList = ([] : List UInt8) then (some (y282, 0)) else (if y282.length < 2932031007402 then (some ((y282 ++ [(⟨4, a1_1, ji43, 0, ((rd_T46 l0_0 t276).f1).extract ((ji43) : Int).toNat ((rd_T46 l0_0 t276).f1).size⟩ : S26)]), 0)) else (none))) = some (r1, r2) := H
         have A55 := Aside0.mk A550
         clear A550
         by_cases c56 : t285.toList = ([] : List UInt8)
         ·
          rw [if_pos c56] at H
          have c56b0 : (t285.toList == ([] : List UInt8)) = true := beq_iff_eq.mpr c56
          have c56b1 : (t285.toList != ([] : List UInt8)) = false := bne_eq_false_iff_eq.mpr c56
          clear c56
          simp only [Option.some.injEq, Prod.mk.injEq] at H
          obtain ⟨rfl, rfl⟩ := H
          have hnb57 := NB264_265.out
          have hnc57 := NB265_264.out
          have hnb58 := NB264_275.out
          have hnc58 := NB275_264.out
          have hcz59_0 := cz_ BK264 0 (.slice A0_0 l0_0.length c0_0)
          have hcz59_1 := cz_ BK264 1 (.int .i64 a0_1)
          have hfz59_0 := blk_frozen BK264.out 0
          have hfz59_1 := blk_frozen BK264.out 1
          have hnb60 := NB265_275.out
          have hnc60 := NB275_265.out
          have hcz61_0 := cz_ BK265 0 (.int .i64 a1_0)
          have hcz61_1 := cz_ BK265 1 (.int .i64 a1_1)
          have hcz61_2 := cz_ BK265 2 (.int .i64 a1_2)
          have hcz61_3 := cz_ BK265 3 (.int .i64 a1_3)
          have hcz61_4 := cz_ BK265 4 (.string a1_4)
          have hfz61_0 := blk_frozen BK265.out 0
          have hfz61_1 := blk_frozen BK265.out 1
          have hfz61_2 := blk_frozen BK265.out 2
          have hfz61_3 := blk_frozen BK265.out 3
          have hfz61_4 := blk_frozen BK265.out 4
          go_wp2_with (first | ((with_reducible refine gate_callee (f := 16) rfl ?_); refine gl_ 38 Tryd.func16 #[.agg #[.slice A0_0 l0_0.length c0_0, .int .i64 a0_1], .int .i64 a1_1] ?_; (with_reducible refine (segment_find.calls kj4 _ _ l0_0 a0_1 a1_1 t276 t277 _ ?side1 ?side2 A28.out).mono ?_); (case side1 => exact pc_ (Kd.C_below HR0_0.out HB.out)); (case side2 => exact HC0_0.out); rintro e w62 ⟨rfl, hb⟩; refine ⟨_, rfl, ?_⟩; replace HO_276000 := Aside0.mk (Kd.R_below (rk_ HO_276000) hb); replace BK264 := kb_ BK264 hb; replace BK265 := kb_ BK265 hb; replace BK275 := kb_ BK275 hb; replace HB := sb_ HB hb; (try clear hb); (try clear hb2); (try clear hk); (try clear hi); have hcz63_0 := cz_ BK264 0 (.slice A0_0 l0_0.length c0_0); have hcz63_1 := cz_ BK264 1 (.int .i64 a0_1); have hfz63_0 := blk_frozen BK264.out 0; have hfz63_1 := blk_frozen BK264.out 1; have p278 : 0 ≤ (t276 : Int) := ct_; have q278 : t276 < (l0_0.length : Int) := ct_; obtain ⟨ad278, e278, hx278_0, hx278_1⟩ := at_T46 HR0_0.out t276 p278 q278; cases e278; replace hx278_0 := pw_cell_below HB.out hx278_0; replace hx278_1 := pw_cell_below HB.out hx278_1; replace p278 := eq_true p278; replace q278 := eq_true q278; have hcz64_0 := cz_ BK265 0 (.int .i64 a1_0); have hcz64_1 := cz_ BK265 1 (.int .i64 a1_1); have hcz64_2 := cz_ BK265 2 (.int .i64 a1_2); have hcz64_3 := cz_ BK265 3 (.int .i64 a1_3); have hcz64_4 := cz_ BK265 4 (.string a1_4); have hfz64_0 := blk_frozen BK265.out 0; have hfz64_1 := blk_frozen BK265.out 1; have hfz64_2 := blk_frozen BK265.out 2; have hfz64_3 := blk_frozen BK265.out 3; have hfz64_4 := blk_frozen BK265.out 4) | ((with_reducible refine gate_dst (N := 73) rfl ?_); refine Kd.R_lit k26 _ 26 ?hg (N := 73) ?hd (xs := ([(⟨1, a1_1, 0, wrap64 (Int.tdiv ((((rd_T46 l0_0 t276).f1).size - ((ji43) : Int).toNat : Nat) : Int) 32), (⟨#[]⟩ : ByteArray)⟩ : S26)] : List (S26))) (inner := [.int .i64 1, .int .i64 a1_1, .int .i64 0, .int .i64 (wrap64 (Int.tdiv ((((rd_T46 l0_0 t276).f1).size - ((ji43) : Int).toNat : Nat) : Int) 32)), .string (⟨#[]⟩ : ByteArray)]) (ok := fun _ => True) (okp := fun _ => True) ?hr ?hp (fun _ hk => hk) trivial (Below.refl _ _) (Nat.le_refl _) (by simp) ?_; (case hd => rfl); (case hg => rfl); (case hr => first | (go_simp; done) | (go_simp; rfl)); (case hp => exact (Reps.c5 (show Kd.M k26 _ _ _ (⟨1, a1_1, 0, wrap64 (Int.tdiv ((((rd_T46 l0_0 t276).f1).size - ((ji43) : Int).toNat : Nat) : Int) 32), (⟨#[]⟩ : ByteArray)⟩ : S26) [.int .i64 1, .int .i64 a1_1, .int .i64 0, .int .i64 (wrap64 (Int.tdiv ((((rd_T46 l0_0 t276).f1).size - ((ji43) : Int).toNat : Nat) : Int) 32)), .string (⟨#[]⟩ : ByteArray)] from (k26_mkM _ _ _ (⟨1, a1_1, 0, wrap64 (Int.tdiv ((((rd_T46 l0_0 t276).f1).size - ((ji43) : Int).toNat : Nat) : Int) 32), (⟨#[]⟩ : ByteArray)⟩ : S26) )) (Reps.none _ _))); intro v283 w65 ho66 hb hg_ hnew_; clear hg_ hnew_; (first | rw [← Ny282.out] at ho66 | (simp only [Int.reduceToNat] at ho66; rw [← Ny282.out] at ho66)); replace HO_276000 := Aside0.mk (Kd.R_below (rk_ HO_276000) hb); have HO284 := Aside0.mk (Kd.R_lower (Kd.R_newB ho66 (g := gb265) (o := .cells #[.int .i64 a1_0, .int .i64 a1_1, .int .i64 a1_2, .int .i64 a1_3, .string a1_4] 26 (0, 0)) (pk_ BK265)) (below_size (pb_ HB))); replace BK264 := kb_ BK264 hb; replace BK265 := kb_ BK265 hb; replace BK275 := kb_ BK275 hb; replace HB := sb_ HB hb; clear hb ho66) | ((with_reducible refine gate_callee (f := 17) rfl ?_); refine goesL_ (some 75) rfl rfl Tryd.func17 (by kernel_rfl) rfl #[.string (((rd_T46 l0_0 t276).f1).extract ((ji43) : Int).toNat ((rd_T46 l0_0 t276).f1).size), .string (⟨#[0]⟩ : ByteArray)] rfl (by (try simp only [List.map_toArray, List.map_cons, List.map_nil]); first | done | (simp only [hji43]; rfl) | rfl | (simp only [List.length_drop, List.length_take]; rfl)) ?_; (with_reducible refine (strings_Trim.calls kj4 (((rd_T46 l0_0 t276).f1).extract ((ji43) : Int).toNat ((rd_T46 l0_0 t276).f1).size) (⟨#[0]⟩ : ByteArray) t285 _ A55.out).mono ?_); rintro e w67 ⟨rfl, hb⟩; refine ⟨_, rfl, ?_⟩; replace HO_276000 := Aside0.mk (Kd.R_below (rk_ HO_276000) hb); replace HO284 := Aside0.mk (Kd.R_below (rk_ HO284) hb); replace BK264 := kb_ BK264 hb; replace BK265 := kb_ BK265 hb; replace BK275 := kb_ BK275 hb; replace HB := sb_ HB hb; (try clear hb); (try clear hb2); (try clear hk); (try clear hi)))
          go_ret2
          exact ⟨_, by first | rfl | (simp [errW_none, errW_some] <;> rfl) | (simp only [← hji43]; first | rfl | (simp [errW_none, errW_some] <;> rfl)) | (simp [*, errW_none, errW_some] <;> rfl), by (with_reducible repeat (first | apply Kd.R_alloc | apply Kd.R_drewN | apply Kd.R_drew)); exact Kd.R_mono HO284.out (fun _ hk => trivial), pb_ HB⟩
         rw [if_neg c56] at H
         have c56b0 : (t285.toList == ([] : List UInt8)) = false := beq_eq_false_iff_ne.mpr c56
         have c56b1 : (t285.toList != ([] : List UInt8)) = true := bne_iff_ne.mpr c56
         by_cases c68 : y282.length < 2932031007402
         ·
          rw [if_pos c68] at H
          have LMc68 := Aside0.mk c68
          clear c68
          obtain ⟨y286, hy286⟩ : ∃ y_ : List (S26), y_ = (y282 ++ [(⟨4, a1_1, ji43, 0, ((rd_T46 l0_0 t276).f1).extract ((ji43) : Int).toNat ((rd_T46 l0_0 t276).f1).size⟩ : S26)]) := ⟨_, rfl⟩
          replace H : (some (y286, 0)) = some (r1, r2) := by first | (rw [hy286]; with_reducible exact H) | (have H2_ := (Option.bind_some _ _).symm.trans H; rw [hy286]; with_reducible exact H2_) | (have H2_ := (Option.bind_some _ _).symm.trans H; with_reducible exact H2_) | with_reducible exact H | (rw [hy286]; exact H) | exact H
          have Ny286 := Aside0.mk hy286
          clear hy286
          simp only [Option.some.injEq, Prod.mk.injEq] at H
          obtain ⟨rfl, rfl⟩ := H
          have hnb69 := NB264_265.out
          have hnc69 := NB265_264.out
          have hnb70 := NB264_275.out
          have hnc70 := NB275_264.out
          have hcz71_0 := cz_ BK264 0 (.slice A0_0 l0_0.length c0_0)
          have hcz71_1 := cz_ BK264 1 (.int .i64 a0_1)
          have hfz71_0 := blk_frozen BK264.out 0
          have hfz71_1 := blk_frozen BK264.out 1
          have hnb72 := NB265_275.out
          have hnc72 := NB275_265.out
          have hcz73_0 := cz_ BK265 0 (.int .i64 a1_0)
          have hcz73_1 := cz_ BK265 1 (.int .i64 a1_1)
          have hcz73_2 := cz_ BK265 2 (.int .i64 a1_2)
          have hcz73_3 := cz_ BK265 3 (.int .i64 a1_3)
          have hcz73_4 := cz_ BK265 4 (.string a1_4)
          have hfz73_0 := blk_frozen BK265.out 0
          have hfz73_1 := blk_frozen BK265.out 1
          have hfz73_2 := blk_frozen BK265.out 2
          have hfz73_3 := blk_frozen BK265.out 3
          have hfz73_4 := blk_frozen BK265.out 4
          go_wp2_with (first | ((with_reducible refine gate_callee (f := 16) rfl ?_); refine gl_ 38 Tryd.func16 #[.agg #[.slice A0_0 l0_0.length c0_0, .int .i64 a0_1], .int .i64 a1_1] ?_; (with_reducible refine (segment_find.calls kj4 _ _ l0_0 a0_1 a1_1 t276 t277 _ ?side1 ?side2 A28.out).mono ?_); (case side1 => exact pc_ (Kd.C_below HR0_0.out HB.out)); (case side2 => exact HC0_0.out); rintro e w74 ⟨rfl, hb⟩; refine ⟨_, rfl, ?_⟩; replace HO_276000 := Aside0.mk (Kd.R_below (rk_ HO_276000) hb); replace BK264 := kb_ BK264 hb; replace BK265 := kb_ BK265 hb; replace BK275 := kb_ BK275 hb; replace HB := sb_ HB hb; (try clear hb); (try clear hb2); (try clear hk); (try clear hi); have hcz75_0 := cz_ BK264 0 (.slice A0_0 l0_0.length c0_0); have hcz75_1 := cz_ BK264 1 (.int .i64 a0_1); have hfz75_0 := blk_frozen BK264.out 0; have hfz75_1 := blk_frozen BK264.out 1; have p278 : 0 ≤ (t276 : Int) := ct_; have q278 : t276 < (l0_0.length : Int) := ct_; obtain ⟨ad278, e278, hx278_0, hx278_1⟩ := at_T46 HR0_0.out t276 p278 q278; cases e278; replace hx278_0 := pw_cell_below HB.out hx278_0; replace hx278_1 := pw_cell_below HB.out hx278_1; replace p278 := eq_true p278; replace q278 := eq_true q278; have hcz76_0 := cz_ BK265 0 (.int .i64 a1_0); have hcz76_1 := cz_ BK265 1 (.int .i64 a1_1); have hcz76_2 := cz_ BK265 2 (.int .i64 a1_2); have hcz76_3 := cz_ BK265 3 (.int .i64 a1_3); have hcz76_4 := cz_ BK265 4 (.string a1_4); have hfz76_0 := blk_frozen BK265.out 0; have hfz76_1 := blk_frozen BK265.out 1; have hfz76_2 := blk_frozen BK265.out 2; have hfz76_3 := blk_frozen BK265.out 3; have hfz76_4 := blk_frozen BK265.out 4) | ((with_reducible refine gate_dst (N := 73) rfl ?_); refine Kd.R_lit k26 _ 26 ?hg (N := 73) ?hd (xs := ([(⟨1, a1_1, 0, wrap64 (Int.tdiv ((((rd_T46 l0_0 t276).f1).size - ((ji43) : Int).toNat : Nat) : Int) 32), (⟨#[]⟩ : ByteArray)⟩ : S26)] : List (S26))) (inner := [.int .i64 1, .int .i64 a1_1, .int .i64 0, .int .i64 (wrap64 (Int.tdiv ((((rd_T46 l0_0 t276).f1).size - ((ji43) : Int).toNat : Nat) : Int) 32)), .string (⟨#[]⟩ : ByteArray)]) (ok := fun _ => True) (okp := fun _ => True) ?hr ?hp (fun _ hk => hk) trivial (Below.refl _ _) (Nat.le_refl _) (by simp) ?_; (case hd => rfl); (case hg => rfl); (case hr => first | (go_simp; done) | (go_simp; rfl)); (case hp => exact (Reps.c5 (show Kd.M k26 _ _ _ (⟨1, a1_1, 0, wrap64 (Int.tdiv ((((rd_T46 l0_0 t276).f1).size - ((ji43) : Int).toNat : Nat) : Int) 32), (⟨#[]⟩ : ByteArray)⟩ : S26) [.int .i64 1, .int .i64 a1_1, .int .i64 0, .int .i64 (wrap64 (Int.tdiv ((((rd_T46 l0_0 t276).f1).size - ((ji43) : Int).toNat : Nat) : Int) 32)), .string (⟨#[]⟩ : ByteArray)] from (k26_mkM _ _ _ (⟨1, a1_1, 0, wrap64 (Int.tdiv ((((rd_T46 l0_0 t276).f1).size - ((ji43) : Int).toNat : Nat) : Int) 32), (⟨#[]⟩ : ByteArray)⟩ : S26) )) (Reps.none _ _))); intro v283 w77 ho78 hb hg_ hnew_; clear hg_ hnew_; (first | rw [← Ny282.out] at ho78 | (simp only [Int.reduceToNat] at ho78; rw [← Ny282.out] at ho78)); replace HO_276000 := Aside0.mk (Kd.R_below (rk_ HO_276000) hb); have HO284 := Aside0.mk (Kd.R_lower (Kd.R_newB ho78 (g := gb265) (o := .cells #[.int .i64 a1_0, .int .i64 a1_1, .int .i64 a1_2, .int .i64 a1_3, .string a1_4] 26 (0, 0)) (pk_ BK265)) (below_size (pb_ HB))); replace BK264 := kb_ BK264 hb; replace BK265 := kb_ BK265 hb; replace BK275 := kb_ BK275 hb; replace HB := sb_ HB hb; clear hb ho78) | ((with_reducible refine gate_callee (f := 17) rfl ?_); refine goesL_ (some 75) rfl rfl Tryd.func17 (by kernel_rfl) rfl #[.string (((rd_T46 l0_0 t276).f1).extract ((ji43) : Int).toNat ((rd_T46 l0_0 t276).f1).size), .string (⟨#[0]⟩ : ByteArray)] rfl (by (try simp only [List.map_toArray, List.map_cons, List.map_nil]); first | done | (simp only [hji43]; rfl) | rfl | (simp only [List.length_drop, List.length_take]; rfl)) ?_; (with_reducible refine (strings_Trim.calls kj4 (((rd_T46 l0_0 t276).f1).extract ((ji43) : Int).toNat ((rd_T46 l0_0 t276).f1).size) (⟨#[0]⟩ : ByteArray) t285 _ A55.out).mono ?_); rintro e w79 ⟨rfl, hb⟩; refine ⟨_, rfl, ?_⟩; replace HO_276000 := Aside0.mk (Kd.R_below (rk_ HO_276000) hb); replace HO284 := Aside0.mk (Kd.R_below (rk_ HO284) hb); replace BK264 := kb_ BK264 hb; replace BK265 := kb_ BK265 hb; replace BK275 := kb_ BK275 hb; replace HB := sb_ HB hb; (try clear hb); (try clear hb2); (try clear hk); (try clear hi); have hcz80_0 := cz_ BK265 0 (.int .i64 a1_0); have hcz80_1 := cz_ BK265 1 (.int .i64 a1_1); have hcz80_2 := cz_ BK265 2 (.int .i64 a1_2); have hcz80_3 := cz_ BK265 3 (.int .i64 a1_3); have hcz80_4 := cz_ BK265 4 (.string a1_4); have hfz80_0 := blk_frozen BK265.out 0; have hfz80_1 := blk_frozen BK265.out 1; have hfz80_2 := blk_frozen BK265.out 2; have hfz80_3 := blk_frozen BK265.out 3; have hfz80_4 := blk_frozen BK265.out 4) | ((with_reducible refine gate_builtin (b := .append) (xs := #[.tmp 77, .tmp 85]) rfl ?_); at_builtin; refine Kd.R_append k26 (w0 := w) w.heap.size rfl (.tmp 77) (.tmp 85) 29 26 (.agg #[(.int .i64 0), (.int .i64 0), (.int .i64 0), (.int .i64 0), (.string ⟨#[]⟩)]) 48 rfl Tryd.underlying29 info26 rfl (by decide) (by omega) v283 y282 (⟨4, a1_1, ji43, 0, ((rd_T46 l0_0 t276).f1).extract ((ji43) : Int).toNat ((rd_T46 l0_0 t276).f1).size⟩ : S26) [.int .i64 4, .int .i64 a1_1, .int .i64 ji43, .int .i64 0, .string (((rd_T46 l0_0 t276).f1).extract ((ji43) : Int).toNat ((rd_T46 l0_0 t276).f1).size)] (fun k_ => k_ ≠ gb265) (fun _ => False) rfl rfl ?aP (fun _ hk => hk.elim) ?aF ?aO ?aB ?aS ?aL ?_; (case aP => exact k26_mkM _ _ _ (⟨4, a1_1, ji43, 0, ((rd_T46 l0_0 t276).f1).extract ((ji43) : Int).toNat ((rd_T46 l0_0 t276).f1).size⟩ : S26)); (case aB => exact (pb_ HB)); (case aF => exact (fun k_ hk => Kd.freshB (g := gb265) (o := .cells #[.int .i64 a1_0, .int .i64 a1_1, .int .i64 a1_2, .int .i64 a1_3, .string a1_4] 26 (0, 0)) (pk_ BK265) k_ hk)); (case aO => exact (by (with_reducible repeat (first | apply Kd.R_alloc | apply Kd.R_drewN | apply Kd.R_drew)); exact Kd.R_mono HO284.out (fun _ hk => hk.2))); (case aS => exact (below_size (pb_ HB))); (case aL => have := LMc68.out; omega); intro v287 w81 ho hb hg hat; rw [← Ny286.out] at ho; replace HO_276000 := Aside0.mk (Kd.R_over' (rk_ HO_276000) (Kd.R_typed (rk_ HO284)) (by decide) hg); replace BK264 := Aside0.mk (blk_grown (g := gb264) (o := .cells #[.slice (some ad278) l0_0.length c0_0, .int .i64 a0_1] 24 (0, 0)) (pk_ BK264) hg (Kd.R_ne HO284.out BK264.out (by decide))); replace BK265 := Aside0.mk (blk_grown (g := gb265) (o := .cells #[.int .i64 a1_0, .int .i64 a1_1, .int .i64 a1_2, .int .i64 a1_3, .string a1_4] 26 (0, 0)) (pk_ BK265) hg (Kd.R_away HO284.out (fun _ hk => hk.2))); replace BK275 := Aside0.mk (blk_grown (g := gb275) (o := .cells #[.slice Ao16 t269.length co16, .int .i64 t272] 24 (0, 0)) (pk_ BK275) hg (Kd.R_ne HO284.out BK275.out (by decide))); replace HB := Aside0.mk (hb); have HO288 := Aside0.mk (ho); clear HO284; clear ho hb hg hat))
          go_ret2
          exact ⟨_, by first | rfl | (simp [errW_none, errW_some] <;> rfl) | (simp only [← hji43]; first | rfl | (simp [errW_none, errW_some] <;> rfl)) | (simp [*, errW_none, errW_some] <;> rfl), by (with_reducible repeat (first | apply Kd.R_alloc | apply Kd.R_drewN | apply Kd.R_drew)); exact Kd.R_mono HO288.out (fun _ hk => trivial), pb_ HB⟩
         rw [if_neg c68] at H
         exact absurd H (by simp)
        rw [if_neg c45] at H
        exact absurd H (by simp)
       rw [if_neg c44] at H
       exact absurd H (by simp)
      rw [if_neg c42] at H
      have c42b0 : (a1_0 == 2) = false := beq_eq_false_iff_ne.mpr c42
      have c42b1 : (a1_0 != 2) = true := bne_iff_ne.mpr c42
      by_cases c82 : 0 ≤ a1_2
      ·
       rw [if_pos c82] at H
       have c82b0 := eq_true c82
       have c82b1 : decide (0 ≤ a1_2) = true := decide_eq_true c82
       clear c82
       by_cases c83 : a1_2 ≤ (wrap64 (a1_2 + (a1_4.size : Int)))
       ·
        rw [if_pos c83] at H
        have c83b0 := eq_true c83
        have c83b1 : decide (a1_2 ≤ (wrap64 (a1_2 + (a1_4.size : Int)))) = true := decide_eq_true c83
        by_cases c84 : (wrap64 (a1_2 + (a1_4.size : Int))) ≤ (((rd_T46 l0_0 t276).f1).size : Int)
        ·
         rw [if_pos c84] at H
         have c84b0 := eq_true c84
         have c84b1 : decide ((wrap64 (a1_2 + (a1_4.size : Int))) ≤ (((rd_T46 l0_0 t276).f1).size : Int)) = true := decide_eq_true c84
         by_cases c85 : (((rd_T46 l0_0 t276).f1).extract (a1_2 : Int).toNat ((wrap64 (a1_2 + (a1_4.size : Int))) : Int).toNat).toList = a1_4.toList
         ·
          rw [if_pos c85] at H
          have c85b0 : ((((rd_T46 l0_0 t276).f1).extract (a1_2 : Int).toNat ((wrap64 (a1_2 + (a1_4.size : Int))) : Int).toNat).toList == a1_4.toList) = true := beq_iff_eq.mpr c85
          have c85b1 : ((((rd_T46 l0_0 t276).f1).extract (a1_2 : Int).toNat ((wrap64 (a1_2 + (a1_4.size : Int))) : Int).toNat).toList != a1_4.toList) = false := bne_eq_false_iff_eq.mpr c85
          clear c85
          simp only [Option.some.injEq, Prod.mk.injEq] at H
          obtain ⟨rfl, rfl⟩ := H
          have hnb86 := NB264_265.out
          have hnc86 := NB265_264.out
          have hnb87 := NB264_275.out
          have hnc87 := NB275_264.out
          have hcz88_0 := cz_ BK264 0 (.slice A0_0 l0_0.length c0_0)
          have hcz88_1 := cz_ BK264 1 (.int .i64 a0_1)
          have hfz88_0 := blk_frozen BK264.out 0
          have hfz88_1 := blk_frozen BK264.out 1
          have hnb89 := NB265_275.out
          have hnc89 := NB275_265.out
          have hcz90_0 := cz_ BK265 0 (.int .i64 a1_0)
          have hcz90_1 := cz_ BK265 1 (.int .i64 a1_1)
          have hcz90_2 := cz_ BK265 2 (.int .i64 a1_2)
          have hcz90_3 := cz_ BK265 3 (.int .i64 a1_3)
          have hcz90_4 := cz_ BK265 4 (.string a1_4)
          have hfz90_0 := blk_frozen BK265.out 0
          have hfz90_1 := blk_frozen BK265.out 1
          have hfz90_2 := blk_frozen BK265.out 2
          have hfz90_3 := blk_frozen BK265.out 3
          have hfz90_4 := blk_frozen BK265.out 4
          go_wp2_with (first | ((with_reducible refine gate_callee (f := 16) rfl ?_); refine gl_ 38 Tryd.func16 #[.agg #[.slice A0_0 l0_0.length c0_0, .int .i64 a0_1], .int .i64 a1_1] ?_; (with_reducible refine (segment_find.calls kj4 _ _ l0_0 a0_1 a1_1 t276 t277 _ ?side1 ?side2 A28.out).mono ?_); (case side1 => exact pc_ (Kd.C_below HR0_0.out HB.out)); (case side2 => exact HC0_0.out); rintro e w91 ⟨rfl, hb⟩; refine ⟨_, rfl, ?_⟩; replace HO_276000 := Aside0.mk (Kd.R_below (rk_ HO_276000) hb); replace BK264 := kb_ BK264 hb; replace BK265 := kb_ BK265 hb; replace BK275 := kb_ BK275 hb; replace HB := sb_ HB hb; (try clear hb); (try clear hb2); (try clear hk); (try clear hi); have hcz92_0 := cz_ BK264 0 (.slice A0_0 l0_0.length c0_0); have hcz92_1 := cz_ BK264 1 (.int .i64 a0_1); have hfz92_0 := blk_frozen BK264.out 0; have hfz92_1 := blk_frozen BK264.out 1; have p278 : 0 ≤ (t276 : Int) := ct_; have q278 : t276 < (l0_0.length : Int) := ct_; obtain ⟨ad278, e278, hx278_0, hx278_1⟩ := at_T46 HR0_0.out t276 p278 q278; cases e278; replace hx278_0 := pw_cell_below HB.out hx278_0; replace hx278_1 := pw_cell_below HB.out hx278_1; replace p278 := eq_true p278; replace q278 := eq_true q278; have hcz93_0 := cz_ BK265 0 (.int .i64 a1_0); have hcz93_1 := cz_ BK265 1 (.int .i64 a1_1); have hcz93_2 := cz_ BK265 2 (.int .i64 a1_2); have hcz93_3 := cz_ BK265 3 (.int .i64 a1_3); have hcz93_4 := cz_ BK265 4 (.string a1_4); have hfz93_0 := blk_frozen BK265.out 0; have hfz93_1 := blk_frozen BK265.out 1; have hfz93_2 := blk_frozen BK265.out 2; have hfz93_3 := blk_frozen BK265.out 3; have hfz93_4 := blk_frozen BK265.out 4))
          go_ret2
          exact ⟨_, er_, by first | exact Kd.R_nil _ _ _ _ _ | exact Kd.N_nil _ _ _ _ _ | exact Kd.V_nil _ _ _ _ _ | exact Kd.Q_nil _ _ _ _ _ | exact Kd.S_nil _ _ _ _ _, pb_ HB⟩
         rw [if_neg c85] at H
         have c85b0 : ((((rd_T46 l0_0 t276).f1).extract (a1_2 : Int).toNat ((wrap64 (a1_2 + (a1_4.size : Int))) : Int).toNat).toList == a1_4.toList) = false := beq_eq_false_iff_ne.mpr c85
         have c85b1 : ((((rd_T46 l0_0 t276).f1).extract (a1_2 : Int).toNat ((wrap64 (a1_2 + (a1_4.size : Int))) : Int).toNat).toList != a1_4.toList) = true := bne_iff_ne.mpr c85
         obtain ⟨y289, hy289⟩ : ∃ y_ : List (S26), y_ = (([(⟨4, a1_1, a1_2, 0, ((rd_T46 l0_0 t276).f1).extract (a1_2 : Int).toNat ((wrap64 (a1_2 + (a1_4.size : Int))) : Int).toNat⟩ : S26)] : List (S26))) := ⟨_, rfl⟩
         replace H : (some (y289, 0)) = some (r1, r2) := by first | (rw [hy289]; with_reducible exact H) | (have H2_ := (Option.bind_some _ _).symm.trans H; rw [hy289]; with_reducible exact H2_) | (have H2_ := (Option.bind_some _ _).symm.trans H; with_reducible exact H2_) | with_reducible exact H | (rw [hy289]; exact H) | exact H
         have Ny289 := Aside0.mk hy289
         clear hy289
         simp only [Option.some.injEq, Prod.mk.injEq] at H
         obtain ⟨rfl, rfl⟩ := H
         have hnb94 := NB264_265.out
         have hnc94 := NB265_264.out
         have hnb95 := NB264_275.out
         have hnc95 := NB275_264.out
         have hcz96_0 := cz_ BK264 0 (.slice A0_0 l0_0.length c0_0)
         have hcz96_1 := cz_ BK264 1 (.int .i64 a0_1)
         have hfz96_0 := blk_frozen BK264.out 0
         have hfz96_1 := blk_frozen BK264.out 1
         have hnb97 := NB265_275.out
         have hnc97 := NB275_265.out
         have hcz98_0 := cz_ BK265 0 (.int .i64 a1_0)
         have hcz98_1 := cz_ BK265 1 (.int .i64 a1_1)
         have hcz98_2 := cz_ BK265 2 (.int .i64 a1_2)
         have hcz98_3 := cz_ BK265 3 (.int .i64 a1_3)
         have hcz98_4 := cz_ BK265 4 (.string a1_4)
         have hfz98_0 := blk_frozen BK265.out 0
         have hfz98_1 := blk_frozen BK265.out 1
         have hfz98_2 := blk_frozen BK265.out 2
         have hfz98_3 := blk_frozen BK265.out 3
         have hfz98_4 := blk_frozen BK265.out 4
         go_wp2_with (first | ((with_reducible refine gate_callee (f := 16) rfl ?_); refine gl_ 38 Tryd.func16 #[.agg #[.slice A0_0 l0_0.length c0_0, .int .i64 a0_1], .int .i64 a1_1] ?_; (with_reducible refine (segment_find.calls kj4 _ _ l0_0 a0_1 a1_1 t276 t277 _ ?side1 ?side2 A28.out).mono ?_); (case side1 => exact pc_ (Kd.C_below HR0_0.out HB.out)); (case side2 => exact HC0_0.out); rintro e w99 ⟨rfl, hb⟩; refine ⟨_, rfl, ?_⟩; replace HO_276000 := Aside0.mk (Kd.R_below (rk_ HO_276000) hb); replace BK264 := kb_ BK264 hb; replace BK265 := kb_ BK265 hb; replace BK275 := kb_ BK275 hb; replace HB := sb_ HB hb; (try clear hb); (try clear hb2); (try clear hk); (try clear hi); have hcz100_0 := cz_ BK264 0 (.slice A0_0 l0_0.length c0_0); have hcz100_1 := cz_ BK264 1 (.int .i64 a0_1); have hfz100_0 := blk_frozen BK264.out 0; have hfz100_1 := blk_frozen BK264.out 1; have p278 : 0 ≤ (t276 : Int) := ct_; have q278 : t276 < (l0_0.length : Int) := ct_; obtain ⟨ad278, e278, hx278_0, hx278_1⟩ := at_T46 HR0_0.out t276 p278 q278; cases e278; replace hx278_0 := pw_cell_below HB.out hx278_0; replace hx278_1 := pw_cell_below HB.out hx278_1; replace p278 := eq_true p278; replace q278 := eq_true q278; have hcz101_0 := cz_ BK265 0 (.int .i64 a1_0); have hcz101_1 := cz_ BK265 1 (.int .i64 a1_1); have hcz101_2 := cz_ BK265 2 (.int .i64 a1_2); have hcz101_3 := cz_ BK265 3 (.int .i64 a1_3); have hcz101_4 := cz_ BK265 4 (.string a1_4); have hfz101_0 := blk_frozen BK265.out 0; have hfz101_1 := blk_frozen BK265.out 1; have hfz101_2 := blk_frozen BK265.out 2; have hfz101_3 := blk_frozen BK265.out 3; have hfz101_4 := blk_frozen BK265.out 4) | ((with_reducible refine gate_dst (N := 108) rfl ?_); refine Kd.R_lit k26 _ 26 ?hg (N := 108) ?hd (xs := ([(⟨4, a1_1, a1_2, 0, ((rd_T46 l0_0 t276).f1).extract (a1_2 : Int).toNat ((wrap64 (a1_2 + (a1_4.size : Int))) : Int).toNat⟩ : S26)] : List (S26))) (inner := [.int .i64 4, .int .i64 a1_1, .int .i64 a1_2, .int .i64 0, .string (((rd_T46 l0_0 t276).f1).extract (a1_2 : Int).toNat ((wrap64 (a1_2 + (a1_4.size : Int))) : Int).toNat)]) (ok := fun _ => True) (okp := fun _ => True) ?hr ?hp (fun _ hk => hk) trivial (Below.refl _ _) (Nat.le_refl _) (by simp) ?_; (case hd => rfl); (case hg => rfl); (case hr => first | (go_simp; done) | (go_simp; rfl)); (case hp => exact (Reps.c5 (show Kd.M k26 _ _ _ (⟨4, a1_1, a1_2, 0, ((rd_T46 l0_0 t276).f1).extract (a1_2 : Int).toNat ((wrap64 (a1_2 + (a1_4.size : Int))) : Int).toNat⟩ : S26) [.int .i64 4, .int .i64 a1_1, .int .i64 a1_2, .int .i64 0, .string (((rd_T46 l0_0 t276).f1).extract (a1_2 : Int).toNat ((wrap64 (a1_2 + (a1_4.size : Int))) : Int).toNat)] from (k26_mkM _ _ _ (⟨4, a1_1, a1_2, 0, ((rd_T46 l0_0 t276).f1).extract (a1_2 : Int).toNat ((wrap64 (a1_2 + (a1_4.size : Int))) : Int).toNat⟩ : S26) )) (Reps.none _ _))); intro v290 w102 ho103 hb hg_ hnew_; clear hg_ hnew_; (first | rw [← Ny289.out] at ho103 | (simp only [Int.reduceToNat] at ho103; rw [← Ny289.out] at ho103)); replace HO_276000 := Aside0.mk (Kd.R_below (rk_ HO_276000) hb); have HO291 := Aside0.mk (Kd.R_lower (Kd.R_newB ho103 (g := gb265) (o := .cells #[.int .i64 a1_0, .int .i64 a1_1, .int .i64 a1_2, .int .i64 a1_3, .string a1_4] 26 (0, 0)) (pk_ BK265)) (below_size (pb_ HB))); replace BK264 := kb_ BK264 hb; replace BK265 := kb_ BK265 hb; replace BK275 := kb_ BK275 hb; replace HB := sb_ HB hb; clear hb ho103))
         go_ret2
         exact ⟨_, er_, by (with_reducible repeat (first | apply Kd.R_alloc | apply Kd.R_drewN | apply Kd.R_drew)); exact Kd.R_mono HO291.out (fun _ hk => trivial), pb_ HB⟩
        rw [if_neg c84] at H
        exact absurd H (by simp)
       rw [if_neg c83] at H
       exact absurd H (by simp)
      rw [if_neg c82] at H
      exact absurd H (by simp)
     rw [if_neg c30] at H
     exact absurd H (by simp)
    rw [if_neg c29] at H
    exact absurd H (by simp)
 rw [if_neg c4] at H
 have c4b0 : (t274 == 0) = false := beq_eq_false_iff_ne.mpr c4
 have c4b1 : (t274 != 0) = true := bne_iff_ne.mpr c4
 simp only [Option.some.injEq, Prod.mk.injEq] at H
 obtain ⟨rfl, rfl⟩ := H
 go_enter Tryd.func7, Tryd.ntmps7
 go_wp2_with (first | ((with_reducible refine gate_dst (N := 2) rfl ?_); refine bx_ 2 #[.slice A0_0 l0_0.length c0_0, .int .i64 a0_1] 24 ?_; intro gb264 hg w104 hbox hb; have BK264 := Aside0.mk (hbox); have GW264 := gw_ hg HB; have GE264 := gw_ hg HB; replace HB := sb_ HB hb; clear hb hbox hg) | ((with_reducible refine gate_dst (N := 3) rfl ?_); refine bx_ 3 #[.int .i64 a1_0, .int .i64 a1_1, .int .i64 a1_2, .int .i64 a1_3, .string a1_4] 26 ?_; intro gb265 hg w105 hbox hb; have BK265 := Aside0.mk (hbox); have GW265 := gw_ hg HB; have GE265 := gw_ hg HB; replace HB := sb_ HB hb; have NB264_265 := nl_ hg BK264; have NB265_264 := ng_ hg BK264; replace BK264 := kb_ BK264 hb; clear hb hbox hg; have hnb106 := NB264_265.out; have hnc106 := NB265_264.out; have hcz107_0 := cz_ BK264 0 (.slice A0_0 l0_0.length c0_0); have hcz107_1 := cz_ BK264 1 (.int .i64 a0_1); have hfz107_0 := blk_frozen BK264.out 0; have hfz107_1 := blk_frozen BK264.out 1; have hcz108_0 := cz_ BK265 0 (.int .i64 a1_0); have hcz108_1 := cz_ BK265 1 (.int .i64 a1_1); have hcz108_2 := cz_ BK265 2 (.int .i64 a1_2); have hcz108_3 := cz_ BK265 3 (.int .i64 a1_3); have hcz108_4 := cz_ BK265 4 (.string a1_4); have hfz108_0 := blk_frozen BK265.out 0; have hfz108_1 := blk_frozen BK265.out 1; have hfz108_2 := blk_frozen BK265.out 2; have hfz108_3 := blk_frozen BK265.out 3; have hfz108_4 := blk_frozen BK265.out 4) | ((with_reducible refine gate_dst (N := 18) rfl ?_); refine Kd.R_lit k26 _ 26 ?hg (N := 18) ?hd (xs := ([(⟨a1_0, a1_1, a1_2, a1_3, a1_4⟩ : S26)] : List (S26))) (inner := [.int .i64 a1_0, .int .i64 a1_1, .int .i64 a1_2, .int .i64 a1_3, .string a1_4]) (ok := fun _ => True) (okp := fun _ => True) ?hr ?hp (fun _ hk => hk) trivial (Below.refl _ _) (Nat.le_refl _) (by simp) ?_; (case hd => rfl); (case hg => rfl); (case hr => first | (go_simp; done) | (go_simp; rfl)); (case hp => exact (Reps.c5 (show Kd.M k26 _ _ _ (⟨a1_0, a1_1, a1_2, a1_3, a1_4⟩ : S26) [.int .i64 a1_0, .int .i64 a1_1, .int .i64 a1_2, .int .i64 a1_3, .string a1_4] from (k26_mkM _ _ _ (⟨a1_0, a1_1, a1_2, a1_3, a1_4⟩ : S26) )) (Reps.none _ _))); intro v267 w109 ho110 hb hg_ hnew_; clear hg_ hnew_; (first | rw [← Ny266.out] at ho110 | (simp only [Int.reduceToNat] at ho110; rw [← Ny266.out] at ho110)); have HO268 := Aside0.mk (Kd.R_lower (Kd.R_newB ho110 (g := gb265) (o := .cells #[.int .i64 a1_0, .int .i64 a1_1, .int .i64 a1_2, .int .i64 a1_3, .string a1_4] 26 (0, 0)) (pk_ BK265)) (below_size (pb_ HB))); replace BK264 := kb_ BK264 hb; replace BK265 := kb_ BK265 hb; replace HB := sb_ HB hb; clear hb ho110; obtain ⟨Ao111, co111, eo111⟩ := Kd.R_slice HO268.out; subst eo111) | ((with_reducible refine gate_callee (f := 11) rfl ?_); refine gl_ 19 Tryd.func11 #[.agg #[.slice A0_0 l0_0.length c0_0, .int .i64 a0_1], .slice Ao111 y266.length co111] ?_; (with_reducible refine (segment_Applied.calls k _ _ l0_0 a0_1 _ _ y266 t269 t272 t273 t274 _ ?side1 ?side2 ?side3 ?side4 A3.out).mono ?_); (case side1 => exact pc_ (Kd.C_below HR0_0.out HB.out)); (case side2 => exact HC0_0.out); (case side3 => exact pc_ (Kd.R_reads' HO268.out).2.2); (case side4 => exact (Kd.R_reads' HO268.out).2.1); rintro e w112 ⟨v270, rfl, ho0, hb⟩; refine ⟨_, rfl, ?_⟩; replace HO268 := Aside0.mk (Kd.R_below (rk_ HO268) hb); have HO271 := Aside0.mk (Kd.R_lower ho0 (below_size (pb_ HB))); replace BK264 := kb_ BK264 hb; replace BK265 := kb_ BK265 hb; replace HB := sb_ HB hb; (try clear hb); (try clear hb2); (try clear hk); (try clear hi); (try clear ho0)) | ((with_reducible refine gate_dst (N := 6) rfl ?_); refine bx_ 6 #[.slice none 0 0, .int .i64 0] 24 ?_; intro gb275 hg w113 hbox hb; replace HO268 := Aside0.mk (Kd.R_below (rk_ HO268) hb); replace HO271 := Aside0.mk (Kd.R_below (rk_ HO271) hb); have BK275 := Aside0.mk (hbox); have GW275 := gw_ hg HB; have GE275 := gw_ hg HB; replace HB := sb_ HB hb; have NB264_275 := nl_ hg BK264; have NB275_264 := ng_ hg BK264; replace BK264 := kb_ BK264 hb; have NB265_275 := nl_ hg BK265; have NB275_265 := ng_ hg BK265; replace BK265 := kb_ BK265 hb; clear hb hbox hg; obtain ⟨Ao114, co114, eo114⟩ := Kd.R_slice HO271.out; subst eo114; have hnb115 := NB275_264.out; have hnc115 := NB264_275.out; have hnb116 := NB275_265.out; have hnc116 := NB265_275.out; have hcz117_0 := cz_ BK275 0 (.slice none 0 0); have hcz117_1 := cz_ BK275 1 (.int .i64 0); have hfz117_0 := blk_frozen BK275.out 0; have hfz117_1 := blk_frozen BK275.out 1))
 go_ret2
 exact ⟨_, er_, by first | exact Kd.R_nil _ _ _ _ _ | exact Kd.N_nil _ _ _ _ _ | exact Kd.V_nil _ _ _ _ _ | exact Kd.Q_nil _ _ _ _ _ | exact Kd.S_nil _ _ _ _ _, pb_ HB⟩
def midrangeref04_Own.f (l0_0 : List (S46)) (a0_1 : Int) : Option ((List (S46)) × Int) := if ([] : List (S46)).length + l0_0.length < 5864062014805 then (some ((([] : List (S46)) ++ l0_0), a0_1)) else (none)
set_option maxHeartbeats 8000000 in
set_option maxRecDepth 100000 in
theorem midrangeref04_Own.calls (A0_0 : Option Addr) (c0_0 : Nat) (l0_0 : List (S46)) (a0_1 : Int) (r1 : List (S46)) (r2 : Int) (w : World) (hr0_0 : Kd.C k46 w A0_0 l0_0.length l0_0) (hc0_0 : l0_0.length ≤ c0_0) (h : midrangeref04_Own.f l0_0 a0_1 = some (r1, r2)) :
  Calls Tryd.prog 8 #[.agg #[.slice A0_0 l0_0.length c0_0, .int .i64 a0_1]] w fun e w' => ∃ v0_ : Value, e = .returned (.agg #[v0_, .int .i64 r2]) ∧ Kd.R k46 46 w' w.heap.size (fun _ => True) v0_ r1 ∧ Below w.heap.size w w' := by
 have hu24 := Tryd.underlying24
 have HR0_0 := Aside0.mk hr0_0
 have HC0_0 := Aside0.mk hc0_0
 clear hr0_0 hc0_0
 have HB := Aside0.mk (Below.refl w.heap.size w)
 have H : (if ([] : List (S46)).length + l0_0.length < 5864062014805 then (some ((([] : List (S46)) ++ l0_0), a0_1)) else (none)) = some (r1, r2) := h
 clear h
 by_cases c2 : ([] : List (S46)).length + l0_0.length < 5864062014805
 ·
  rw [if_pos c2] at H
  have LMc2 := Aside0.mk c2
  clear c2
  obtain ⟨y294, hy294⟩ : ∃ y_ : List (S46), y_ = (([] : List (S46)) ++ l0_0) := ⟨_, rfl⟩
  replace H : (some (y294, a0_1)) = some (r1, r2) := by first | (rw [hy294]; with_reducible exact H) | (have H2_ := (Option.bind_some _ _).symm.trans H; rw [hy294]; with_reducible exact H2_) | (have H2_ := (Option.bind_some _ _).symm.trans H; with_reducible exact H2_) | with_reducible exact H | (rw [hy294]; exact H) | exact H
  have Ny294 := Aside0.mk hy294
  clear hy294
  simp only [Option.some.injEq, Prod.mk.injEq] at H
  obtain ⟨rfl, rfl⟩ := H
  go_enter Tryd.func8, Tryd.ntmps8
  try go_wp2_with (first | ((with_reducible refine gate_dst (N := 1) rfl ?_); refine bx_ 1 #[.slice A0_0 l0_0.length c0_0, .int .i64 a0_1] 24 ?_; intro gb292 hg w3 hbox hb; have BK292 := Aside0.mk (hbox); have GW292 := gw_ hg HB; have GE292 := gw_ hg HB; replace HB := sb_ HB hb; clear hb hbox hg) | ((with_reducible refine gate_dst (N := 2) rfl ?_); refine bx_ 2 #[.slice none 0 0, .int .i64 0] 24 ?_; intro gb293 hg w4 hbox hb; have BK293 := Aside0.mk (hbox); have GW293 := gw_ hg HB; have GE293 := gw_ hg HB; replace HB := sb_ HB hb; have NB292_293 := nl_ hg BK292; have NB293_292 := ng_ hg BK292; replace BK292 := kb_ BK292 hb; clear hb hbox hg))
  replace BK292 := Aside0.mk (blk_drew BK292.out)
  replace BK293 := Aside0.mk (blk_drew BK293.out)
  replace HB := Aside0.mk (below_drew1 HB.out)
  refine start_ (n := 7) (S := fun w' => w'.cell? ⟨gb292, 0, none⟩ = some (.slice A0_0 l0_0.length c0_0) ∧ w'.cell? ⟨gb292, 1, none⟩ = some (.int .i64 a0_1)) (ds := []) #[false, false, false, false, false, false, false] (by kernel_rfl) rfl rfl ⟨cy_ BK292 0, cy_ BK292 1⟩ (fun hHeld => ?_)
  generalize w4.drew = w5 at BK292 BK293 HB hHeld ⊢
  refine pure_ (i := 0) (N := some 3) (v := ?_) (a' := ?_) #[true, false, false, false, false, false, false] rfl rfl (by kernel_rfl) (fun _ _ _ h => h) (Or.inl ⟨by rfl, ?_⟩) ?_ ?_
  rotate_left
  ·
   intro w'
   go_simp
   with_reducible rfl
  rotate_left
  ·
   simp only [Act.put, List.setIfInBounds_toArray, List.set_cons_zero, List.set_cons_succ, i64_w, i32_w]
   rfl
  refine pure_ (i := 3) (N := some 6) (v := ?_) (a' := ?_) #[true, false, false, true, false, false, false] rfl rfl (by kernel_rfl) (fun _ _ _ h => h) (Or.inl ⟨by rfl, ?_⟩) ?_ ?_
  rotate_left
  ·
   intro w'
   go_simp
   with_reducible rfl
  rotate_left
  ·
   simp only [Act.put, List.setIfInBounds_toArray, List.set_cons_zero, List.set_cons_succ, i64_w, i32_w]
   rfl
  refine take_ (i := 1) (N := some 4) (v := ?_) (a' := ?_) #[true, true, false, true, false, false, false] rfl rfl (by kernel_rfl) (fun _ _ _ h => h) (Or.inl ⟨by rfl, ?_⟩) hHeld ?_ ?_
  rotate_left
  ·
   rintro w' ⟨s0, s1⟩
   go_simp
   with_reducible rfl
  rotate_left
  ·
   simp only [Act.put, List.setIfInBounds_toArray, List.set_cons_zero, List.set_cons_succ, i64_w, i32_w]
   rfl
  refine take_ (i := 4) (N := some 7) (v := ?_) (a' := ?_) #[true, true, false, true, true, false, false] rfl rfl (by kernel_rfl) (fun _ _ _ h => h) (Or.inl ⟨by rfl, ?_⟩) hHeld ?_ ?_
  rotate_left
  ·
   rintro w' ⟨s0, s1⟩
   go_simp
   with_reducible rfl
  rotate_left
  ·
   simp only [Act.put, List.setIfInBounds_toArray, List.set_cons_zero, List.set_cons_succ, i64_w, i32_w]
   rfl
  refine one_ (i := 2) (N := some 5) #[true, true, true, true, true, false, false] rfl rfl (by kernel_rfl) (by decide) (fun K hK => ?_)
  refine Kd.R_append_rows_step k46 (w0 := w) w.heap.size rfl (.const (.slice none 0 0)) (.tmp 4) 22 46 (.agg #[(.int .i64 0), (.string ⟨#[]⟩)]) 24 rfl Tryd.underlying22 info46 rfl (by decide) (by omega) (.slice none 0 0) ([] : List (S46)) l0_0 _ _ _ (fun _ => True) (fun _ => False) rfl rfl ?aO ?aR (fun _ _ h => h) (fun _ h => h.elim) ?aF ?aB ?aS ?aL ?_
  (case aR => exact pc_ (Kd.C_below HR0_0.out HB.out))
  (case aB => exact (pb_ HB))
  (case aF => exact (fun _ _ => trivial))
  (case aO => exact ((Kd.R_nil _ _ _ _ (fun _ => True))))
  (case aS => exact (below_size (pb_ HB)))
  (case aL => have := LMc2.out; omega)
  intro v295 w6 ho hb hg hat
  rw [← Ny294.out] at ho
  replace BK292 := Aside0.mk (blk_grown (g := gb292) (o := .cells #[.slice A0_0 l0_0.length c0_0, .int .i64 a0_1] 24 (0, 0)) (pk_ BK292) hg (by simp [Value.ownBlock]))
  replace BK293 := Aside0.mk (blk_grown (g := gb293) (o := .cells #[.slice none 0 0, .int .i64 0] 24 (0, 0)) (pk_ BK293) hg (by simp [Value.ownBlock]))
  replace HB := Aside0.mk (hb)
  have HO296 := Aside0.mk (ho)
  clear ho hb hg hat
  obtain ⟨Ao7, co7, eo7⟩ := Kd.R_slice HO296.out
  (first | subst eo7 | (injection eo7 with f1_ f2_ f3_; have f4_ := f1_.symm; have f5_ := f3_.symm; clear f1_ f2_ f3_; subst f4_; subst f5_))
  refine hK.out _ _ ⟨cy_ BK292 0, cy_ BK292 1⟩ (fun hHeld => ?_)
  clear hK K
  refine nn_ 5 ?_
  refine pure_ (i := 5) (N := some 8) (v := ?_) (a' := ?_) #[true, true, true, true, true, true, false] rfl rfl (by kernel_rfl) (fun _ _ _ h => h) (Or.inl ⟨by rfl, ?_⟩) ?_ ?_
  rotate_left
  ·
   intro w'
   go_simp
   with_reducible rfl
  rotate_left
  ·
   simp only [Act.put, List.setIfInBounds_toArray, List.set_cons_zero, List.set_cons_succ, i64_w, i32_w]
   rfl
  refine one_ (i := 6) (N := none) #[true, true, true, true, true, true, true] rfl rfl (by kernel_rfl) (by decide) (fun K hK => ?_)
  have hs8 : w6.cell? ⟨gb293, 0, none⟩ = some (.slice none 0 0) := (blk_cell BK293.out 0).trans rfl
  have hfs8 := blk_frozen BK293.out 0
  have hns8_0 := NB292_293.out
  have hms8_0 := NB293_292.out
  have hs9 : w6.cell? ⟨gb293, 1, none⟩ = some (.int .i64 0) := (blk_cell BK293.out 1).trans rfl
  have hfs9 := blk_frozen BK293.out 1
  have hns9_0 := NB292_293.out
  have hms9_0 := NB293_292.out
  refine skip_ (w1 := ?_) (by rfl) rfl ?_ ?_
  rotate_left
  ·
   go_simp
   rfl
  refine hK.out _ _ ⟨((cell_far (p := ⟨gb293, _, none⟩) NB292_293.out _).trans (((cell_far (p := ⟨gb293, _, none⟩) NB292_293.out _).trans (hHeld.1)))), ((cell_far (p := ⟨gb293, _, none⟩) NB292_293.out _).trans (((cell_far (p := ⟨gb293, _, none⟩) NB292_293.out _).trans (hHeld.2))))⟩ (fun hHeld => ?_)
  clear hK K
  refine done_ (by kernel_rfl) ?_
  try go_wp2
  refine bodyPost_ret (results_cell_row rfl _ _ gb293 24 #[.slice Ao7 y294.length co7, .int .i64 a0_1] (0, 0) _ rfl (bq_ BK293) Tryd.underlying24 rfl (by kernel_rfl)) rfl ?_
  exact ⟨_, er_, by (with_reducible repeat (first | apply Kd.R_alloc | apply Kd.R_drewN | apply Kd.R_drew)); exact Kd.R_mono (Kd.R_far (p := ⟨gb293, 1, none⟩) (Kd.R_far (p := ⟨gb293, 0, none⟩) (Kd.R_types HO296.out BK293.out (by decide)) (fun _ hk => hk.2) (.slice Ao7 y294.length co7)) (fun _ hk => hk.2) (.int .i64 a0_1)) (fun _ hk => trivial), pb_ HB⟩
 rw [if_neg c2] at H
 exact absurd H (by simp)

def midrangeref04_Pages.f (a0 : ByteArray) : Option (Int) := some (wrap64 ((a0.size : Int) / 32))
def midrangeref04_OwnOps.f (l0 : List (S26)) : Option ((List (S26))) := if ([] : List (S26)).length + l0.length < 2932031007402 then (some (([] : List (S26)) ++ l0)) else (none)
set_option maxHeartbeats 8000000 in
set_option maxRecDepth 100000 in
theorem midrangeref04_OwnOps.calls (A0 : Option Addr) (c0 : Nat) (l0 : List (S26)) (r : List (S26)) (w : World) (hr0 : Kd.C k26 w A0 l0.length l0) (hc0 : l0.length ≤ c0) (h : midrangeref04_OwnOps.f l0 = some r) :
  Calls Tryd.prog 12 #[.slice A0 l0.length c0] w fun e w' => ∃ v0_ : Value, e = .returned (v0_) ∧ Kd.R k26 26 w' w.heap.size (fun _ => True) v0_ r ∧ Below w.heap.size w w' := by
 have HR0 := Aside0.mk hr0
 have HC0 := Aside0.mk hc0
 clear hr0 hc0
 have HB := Aside0.mk (Below.refl w.heap.size w)
 have H : (if ([] : List (S26)).length + l0.length < 2932031007402 then (some (([] : List (S26)) ++ l0)) else (none)) = some r := h
 clear h
 by_cases c2 : ([] : List (S26)).length + l0.length < 2932031007402
 ·
  rw [if_pos c2] at H
  have LMc2 := Aside0.mk c2
  clear c2
  obtain ⟨y563, hy563⟩ : ∃ y_ : List (S26), y_ = (([] : List (S26)) ++ l0) := ⟨_, rfl⟩
  replace H : (some y563) = some r := by first | (rw [hy563]; with_reducible exact H) | (have H2_ := (Option.bind_some _ _).symm.trans H; rw [hy563]; with_reducible exact H2_) | (have H2_ := (Option.bind_some _ _).symm.trans H; with_reducible exact H2_) | with_reducible exact H | (rw [hy563]; exact H) | exact H
  have Ny563 := Aside0.mk hy563
  clear hy563
  obtain rfl := Option.some.inj H
  go_enter Tryd.func12, Tryd.ntmps12
  go_wp2_with (first | ((with_reducible refine gate_builtin (b := .append) (xs := #[.const (.slice none 0 0), .tmp 3]) rfl ?_); at_builtin; refine Kd.R_append_rows k26 (w0 := w) w.heap.size rfl (.const (.slice none 0 0)) (.tmp 3) 29 26 (.agg #[(.int .i64 0), (.int .i64 0), (.int .i64 0), (.int .i64 0), (.string ⟨#[]⟩)]) 48 rfl Tryd.underlying29 info26 rfl (by decide) (by omega) (.slice none 0 0) ([] : List (S26)) l0 _ _ _ (fun _ => True) (fun _ => False) rfl rfl ?aO ?aR (fun _ _ h => h) (fun _ h => h.elim) ?aF ?aB ?aS ?aL ?_; (case aR => repeat (first | exact HR0.out | (with_reducible refine Kd.C_alloc ?_ _) | (with_reducible refine Kd.C_drewN ?_ _) | (with_reducible refine Kd.C_drew ?_))); (case aB => exact (pb_ HB)); (case aF => exact (fun _ _ => trivial)); (case aO => exact ((Kd.R_nil _ _ _ _ (fun _ => True)))); (case aS => exact (below_size (pb_ HB))); (case aL => have := LMc2.out; omega); intro v564 w3 ho hb hg hat; rw [← Ny563.out] at ho; replace HB := Aside0.mk (hb); have HO565 := Aside0.mk (ho); clear ho hb hg hat))
  go_ret
  exact ⟨_, er_, by (with_reducible repeat (first | apply Kd.R_alloc | apply Kd.R_drewN | apply Kd.R_drew)); exact HO565.out, pb_ HB⟩
 rw [if_neg c2] at H
 exact absurd H (by simp)
end Go.Proofs.YtoabahlaicgmjaaDoor.X
end
section
namespace Go.Proofs.YtoabahlaicgmjaaDoor.X
open Go.Proofs.YtoabahlaicgmjaaDoor.XW
open Go.RowKit Go.Proofs.YtoabahlaicgmjaaDoorW.PrintWords Go.Proofs.YtoabahlaicgmjaaDoorW.PrintLast Go.Proofs.YtoabahlaicgmjaaDoorW.PrintMore
attribute [local go_sem] max2_int min2_int max_two min_two max_three min_three max_four min_four   -- for this text's walks alone
set_option linter.unusedVariables false
set_option linter.unusedSimpArgs false
theorem eqA46 (d : Nat) (w : World) (x0 y0 : Int) (x1 y1 : ByteArray) :
    (Op.equalIn (d + 2) 46 (.agg #[.int .i64 x0, .string x1]) (.agg #[.int .i64 y0, .string y1])).run Tryd.prog w = .ok (x0 == y0 && (x1.toList == y1.toList)) w := by
  refine eqA_of Tryd.underlying46 (by kernel_rfl) ?_
  refine eqf_cons (by rfl) (by go_simp; rfl) (by go_simp; rfl) (by go_simp) ?_
  exact eqf_last (by rfl) (by go_simp; rfl) (by go_simp; rfl) (by go_simp)
end Go.Proofs.YtoabahlaicgmjaaDoor.X
end
section
namespace Go.Proofs.YtoabahlaicgmjaaDoor.X
open Go.Proofs.YtoabahlaicgmjaaDoor.XW Go.Proofs.YtoabahlaicgmjaaDoor.XS
open Go.RowKit Go.Proofs.YtoabahlaicgmjaaDoorW.PrintWords Go.Proofs.YtoabahlaicgmjaaDoorW.PrintLast Go.Proofs.YtoabahlaicgmjaaDoorW.PrintMore
attribute [local go_sem] max2_int min2_int max_two min_two max_three min_three max_four min_four   -- for this text's walks alone
set_option linter.unusedVariables false
set_option linter.unusedSimpArgs false
attribute [local go_sem high] eqA46
mutual
def midrangeref04_Same.j0 : Nat → Bool → List (S46) → Int → List (S46) → Int → Option (Bool)
  | 0, _, _, _, _, _ => none
  | k + 1, x19, x567000, x567001, x568000, x568001 => if x19 = true then (some false) else (midrangeref04_Same.l0 k 0 x567000 x567001 x568000 x568001)
def midrangeref04_Same.l0 : Nat → Int → List (S46) → Int → List (S46) → Int → Option (Bool)
  | 0, _, _, _, _, _ => none
  | k + 1, x5, x567000, x567001, x568000, x568001 => if x5 < (x567000.length : Int) then (if 0 ≤ x5 then (if x5 < (x568000.length : Int) then (if (!(((rd_T46 x567000 x5).f0) == ((rd_T46 x568000 x5).f0)) || (!((((rd_T46 x567000 x5).f1).toList) == (((rd_T46 x568000 x5).f1).toList)))) = true then (some false) else (midrangeref04_Same.l0 k (wrap64 (x5 + 1)) x567000 x567001 x568000 x568001)) else (none)) else (none)) else (some true)
end
def midrangeref04_Same.f (k : Nat) (l0_0 : List (S46)) (a0_1 : Int) (l1_0 : List (S46)) (a1_1 : Int) : Option (Bool) := if a0_1 = a1_1 then (midrangeref04_Same.j0 k ((l0_0.length : Int) != (l1_0.length : Int)) l0_0 a0_1 l1_0 a1_1) else (midrangeref04_Same.j0 k true l0_0 a0_1 l1_0 a1_1)
set_option maxHeartbeats 8000000 in
set_option maxRecDepth 100000 in
theorem midrangeref04_Same.calls (k : Nat) (A0_0 : Option Addr) (c0_0 : Nat) (l0_0 : List (S46)) (a0_1 : Int) (A1_0 : Option Addr) (c1_0 : Nat) (l1_0 : List (S46)) (a1_1 : Int) (r : Bool) (w : World) (hr0_0 : Kd.C k46 w A0_0 l0_0.length l0_0) (hc0_0 : l0_0.length ≤ c0_0) (hr1_0 : Kd.C k46 w A1_0 l1_0.length l1_0) (hc1_0 : l1_0.length ≤ c1_0) (h : midrangeref04_Same.f k l0_0 a0_1 l1_0 a1_1 = some r) :
  Calls Tryd.prog 13 #[.agg #[.slice A0_0 l0_0.length c0_0, .int .i64 a0_1], .agg #[.slice A1_0 l1_0.length c1_0, .int .i64 a1_1]] w fun e w' => e = .returned (.bool r) ∧ Below w.heap.size w w' := by
 have hu24 := Tryd.underlying24
 have hu46 := Tryd.underlying46
 have HR0_0 := Aside0.mk hr0_0
 have HC0_0 := Aside0.mk hc0_0
 clear hr0_0 hc0_0
 have HR1_0 := Aside0.mk hr1_0
 have HC1_0 := Aside0.mk hc1_0
 clear hr1_0 hc1_0
 have HB := Aside0.mk (Below.refl w.heap.size w)
 have H : (if a0_1 = a1_1 then (midrangeref04_Same.j0 k ((l0_0.length : Int) != (l1_0.length : Int)) l0_0 a0_1 l1_0 a1_1) else (midrangeref04_Same.j0 k true l0_0 a0_1 l1_0 a1_1)) = some r := h
 clear h
 have HC3 := Aside0.mk H
 clear H
 go_enter Tryd.func13, Tryd.ntmps13
 go_upto_region 1 with (first | ((with_reducible refine gate_dst (N := 2) rfl ?_); (try (refine gate_guard (by rfl) ?_; dsimp only)); refine bx_ 2 #[.slice A0_0 l0_0.length c0_0, .int .i64 a0_1] 24 ?_; intro gb566 hg w4 hbox hb; have BK566 := Aside0.mk (hbox); have GW566 := gw_ hg HB; have GE566 := gw_ hg HB; replace HB := sb_ HB hb; clear hb hbox hg) | ((with_reducible refine gate_dst (N := 3) rfl ?_); (try (refine gate_guard (by rfl) ?_; dsimp only)); refine bx_ 3 #[.slice A1_0 l1_0.length c1_0, .int .i64 a1_1] 24 ?_; intro gb567 hg w5 hbox hb; have BK567 := Aside0.mk (hbox); have GW567 := gw_ hg HB; have GE567 := gw_ hg HB; replace HB := sb_ HB hb; have NB566_567 := nl_ hg BK566; have NB567_566 := ng_ hg BK566; replace BK566 := kb_ BK566 hb; clear hb hbox hg))
 repeat (go_quiet (first | ((with_reducible refine gate_dst (N := 2) rfl ?_); (try (refine gate_guard (by rfl) ?_; dsimp only)); refine bx_ 2 #[.slice A0_0 l0_0.length c0_0, .int .i64 a0_1] 24 ?_; intro gb566 hg w4 hbox hb; have BK566 := Aside0.mk (hbox); have GW566 := gw_ hg HB; have GE566 := gw_ hg HB; replace HB := sb_ HB hb; clear hb hbox hg) | ((with_reducible refine gate_dst (N := 3) rfl ?_); (try (refine gate_guard (by rfl) ?_; dsimp only)); refine bx_ 3 #[.slice A1_0 l1_0.length c1_0, .int .i64 a1_1] 24 ?_; intro gb567 hg w5 hbox hb; have BK567 := Aside0.mk (hbox); have GW567 := gw_ hg HB; have GE567 := gw_ hg HB; replace HB := sb_ HB hb; have NB566_567 := nl_ hg BK566; have NB567_566 := ng_ hg BK566; replace BK566 := kb_ BK566 hb; clear hb hbox hg)); go_upto_region 1 with (first | ((with_reducible refine gate_dst (N := 2) rfl ?_); (try (refine gate_guard (by rfl) ?_; dsimp only)); refine bx_ 2 #[.slice A0_0 l0_0.length c0_0, .int .i64 a0_1] 24 ?_; intro gb566 hg w4 hbox hb; have BK566 := Aside0.mk (hbox); have GW566 := gw_ hg HB; have GE566 := gw_ hg HB; replace HB := sb_ HB hb; clear hb hbox hg) | ((with_reducible refine gate_dst (N := 3) rfl ?_); (try (refine gate_guard (by rfl) ?_; dsimp only)); refine bx_ 3 #[.slice A1_0 l1_0.length c1_0, .int .i64 a1_1] 24 ?_; intro gb567 hg w5 hbox hb; have BK567 := Aside0.mk (hbox); have GW567 := gw_ hg HB; have GE567 := gw_ hg HB; replace HB := sb_ HB hb; have NB566_567 := nl_ hg BK566; have NB567_566 := ng_ hg BK566; replace BK566 := kb_ BK566 hb; clear hb hbox hg)))
 (try simp only [Act.put, List.setIfInBounds_toArray, List.set_cons_zero, List.set_cons_succ])
 go_cut [19] (fun v19 wc => ∃ (kq : Nat) (x19_2 : Bool), v19 = .bool x19_2 ∧ Aside0 (midrangeref04_Same.j0 kq x19_2 l0_0 a0_1 l1_0 a1_1 = some r) ∧ Aside0 (kq ≤ k) ∧ Aside0 (wc.heap[gb566]? = some (.cells #[(.slice A0_0 l0_0.length c0_0), .int .i64 a0_1] 24 (0, 0))) ∧ Aside0 (wc.heap[gb567]? = some (.cells #[(.slice A1_0 l1_0.length c1_0), .int .i64 a1_1] 24 (0, 0))) ∧ Aside0 (Below w.heap.size w wc))
 case first =>
  have H := HC3.out
  clear HC3
  by_cases c6 : a0_1 = a1_1
  ·
   rw [if_pos c6] at H
   have c6b0 : (a0_1 == a1_1) = true := beq_iff_eq.mpr c6
   have c6b1 : (a0_1 != a1_1) = false := bne_eq_false_iff_eq.mpr c6
   clear c6
   (first | rw [c6b0] | (simp only [i64_w, i32_w]; rw [c6b0]) | skip)
   have H' := Aside0.mk H
   clear H
   have hnb7 := NB566_567.out
   have hnc7 := NB567_566.out
   have hcz8_0 := cz_ BK566 0 (.slice A0_0 l0_0.length c0_0)
   have hcz8_1 := cz_ BK566 1 (.int .i64 a0_1)
   have hfz8_0 := blk_frozen BK566.out 0
   have hfz8_1 := blk_frozen BK566.out 1
   have hcz9_0 := cz_ BK567 0 (.slice A1_0 l1_0.length c1_0)
   have hcz9_1 := cz_ BK567 1 (.int .i64 a1_1)
   have hfz9_0 := blk_frozen BK567.out 0
   have hfz9_1 := blk_frozen BK567.out 1
   go_wp2
   repeat (go_quiet (fail); try go_wp2)
   go_meet
   case rel => exact ⟨_, (((l0_0.length : Int) != (l1_0.length : Int))), rl_, H', ⟨by first | omega | exact Nat.le_refl _⟩, ⟨pk_ BK566⟩, ⟨pk_ BK567⟩, ⟨pb_ HB⟩⟩
  rw [if_neg c6] at H
  have c6b0 : (a0_1 == a1_1) = false := beq_eq_false_iff_ne.mpr c6
  have c6b1 : (a0_1 != a1_1) = true := bne_iff_ne.mpr c6
  (first | rw [c6b0] | (simp only [i64_w, i32_w]; rw [c6b0]) | skip)
  have H' := Aside0.mk H
  clear H
  have hnb10 := NB566_567.out
  have hnc10 := NB567_566.out
  have hcz11_0 := cz_ BK566 0 (.slice A0_0 l0_0.length c0_0)
  have hcz11_1 := cz_ BK566 1 (.int .i64 a0_1)
  have hfz11_0 := blk_frozen BK566.out 0
  have hfz11_1 := blk_frozen BK566.out 1
  have hcz12_0 := cz_ BK567 0 (.slice A1_0 l1_0.length c1_0)
  have hcz12_1 := cz_ BK567 1 (.int .i64 a1_1)
  have hfz12_0 := blk_frozen BK567.out 0
  have hfz12_1 := blk_frozen BK567.out 1
  go_wp2
  repeat (go_quiet (fail); try go_wp2)
  go_meet
  case rel => exact ⟨_, (true), rl_, H', ⟨by first | omega | exact Nat.le_refl _⟩, ⟨pk_ BK566⟩, ⟨pk_ BK567⟩, ⟨pb_ HB⟩⟩
 case rest =>
  clear HC3
  try clear c1
  try clear p2
  try clear c6
  try clear c6b0
  try clear c6b1
  try clear c7
  try clear c10
  try clear hcz11_0
  try clear hcz11_1
  try clear hcz12_0
  try clear hcz12_1
  try clear hcz8_0
  try clear hcz8_1
  try clear hcz9_0
  try clear hcz9_1
  try clear hfz11_0
  try clear hfz11_1
  try clear hfz12_0
  try clear hfz12_1
  try clear hfz8_0
  try clear hfz8_1
  try clear hfz9_0
  try clear hfz9_1
  obtain ⟨kq, x19_2, rfl, HA, HJ2, BK566, BK567, HB⟩ := hcut
  cases kq with
  | zero => exact absurd HA.out (by simp [midrangeref04_Same.j0])
  | succ kj2 =>
   have H := HA.out
   clear HA
   simp only [midrangeref04_Same.j0] at H
   by_cases c13 : x19_2 = true
   ·
    subst c13
    have H1 : (some false) = some r := by rw [if_pos rfl] at H; exact H
    clear H
    have H := H1
    clear H1
    obtain rfl := Option.some.inj H
    go_wp2
    repeat (go_quiet (fail); try go_wp2)
    go_ret
    exact ⟨er_, pb_ HB⟩
   replace c13 := Bool.eq_false_iff.mpr c13
   subst c13
   have H1 : (midrangeref04_Same.l0 kj2 0 l0_0 a0_1 l1_0 a1_1) = some r := by rw [if_neg (show ¬ (false = true) by decide)] at H; exact H
   clear H
   have H := H1
   clear H1
   have H' := Aside0.mk H
   clear H
   go_wp2
   repeat (go_quiet (fail); try go_wp2)
   go_loopg [5] kj2 (fun kq v5 w' => ∃ (x5_2 : Int), v5 = .int .i64 x5_2 ∧ Aside0 (midrangeref04_Same.l0 kq x5_2 l0_0 a0_1 l1_0 a1_1 = some r) ∧ Aside0 (kq ≤ kj2) ∧ Aside0 (w'.heap[gb566]? = some (.cells #[(.slice A0_0 l0_0.length c0_0), .int .i64 a0_1] 24 (0, 0))) ∧ Aside0 (w'.heap[gb567]? = some (.cells #[(.slice A1_0 l1_0.length c1_0), .int .i64 a1_1] 24 (0, 0))) ∧ Aside0 (Below w.heap.size w w'))
   case atStart => exact ⟨(0), rl_, H', ⟨Nat.le_refl _⟩, ⟨pk_ BK566⟩, ⟨pk_ BK567⟩, ⟨pb_ HB⟩⟩
   case round =>
    clear H'
    try clear c1
    try clear p2
    try clear c6
    try clear c6b0
    try clear c6b1
    try clear c7
    try clear c10
    try clear c13
    try clear hcz11_0
    try clear hcz11_1
    try clear hcz12_0
    try clear hcz12_1
    try clear hcz8_0
    try clear hcz8_1
    try clear hcz9_0
    try clear hcz9_1
    try clear hfz11_0
    try clear hfz11_1
    try clear hfz12_0
    try clear hfz12_1
    try clear hfz8_0
    try clear hfz8_1
    try clear hfz9_0
    try clear hfz9_1
    try clear p2
    obtain ⟨x5_2, rfl, HA, HK2, BK566, BK567, HB⟩ := hrel
    cases gk with
    | zero => exact absurd HA.out (by simp [midrangeref04_Same.l0])
    | succ k2 =>
     have H := HA.out
     clear HA
     simp only [midrangeref04_Same.l0] at H
     by_cases c14 : x5_2 < (l0_0.length : Int)
     ·
      rw [if_pos c14] at H
      have c14b0 : decide (x5_2 < (l0_0.length : Int)) = true := decide_eq_true c14
      clear c14
      by_cases c15 : 0 ≤ x5_2
      ·
       rw [if_pos c15] at H
       have c15b0 : decide (0 ≤ x5_2) = true := decide_eq_true c15
       clear c15
       by_cases c16 : x5_2 < (l1_0.length : Int)
       ·
        rw [if_pos c16] at H
        have c16b0 : decide (x5_2 < (l1_0.length : Int)) = true := decide_eq_true c16
        clear c16
        by_cases c17 : (!(((rd_T46 l0_0 x5_2).f0) == ((rd_T46 l1_0 x5_2).f0)) || (!((((rd_T46 l0_0 x5_2).f1).toList) == (((rd_T46 l1_0 x5_2).f1).toList)))) = true
        ·
         rw [if_pos c17] at H
         have c17b0 : (!(((rd_T46 l0_0 x5_2).f0) == ((rd_T46 l1_0 x5_2).f0)) || (!((((rd_T46 l0_0 x5_2).f1).toList) == (((rd_T46 l1_0 x5_2).f1).toList)))) = true := c17
         clear c17
         obtain rfl := Option.some.inj H
         have hnb18 := NB566_567.out
         have hnc18 := NB567_566.out
         have hcz19_0 := cz_ BK566 0 (.slice A0_0 l0_0.length c0_0)
         have hcz19_1 := cz_ BK566 1 (.int .i64 a0_1)
         have hfz19_0 := blk_frozen BK566.out 0
         have hfz19_1 := blk_frozen BK566.out 1
         have p568 : 0 ≤ (x5_2 : Int) := ct_
         have q568 : x5_2 < (l0_0.length : Int) := ct_
         obtain ⟨ad568, e568, hx568_0, hx568_1⟩ := at_T46 HR0_0.out x5_2 p568 q568
         cases e568
         replace hx568_0 := pw_cell_below HB.out hx568_0
         replace hx568_1 := pw_cell_below HB.out hx568_1
         replace p568 := eq_true p568
         replace q568 := eq_true q568
         have hcz20_0 := cz_ BK567 0 (.slice A1_0 l1_0.length c1_0)
         have hcz20_1 := cz_ BK567 1 (.int .i64 a1_1)
         have hfz20_0 := blk_frozen BK567.out 0
         have hfz20_1 := blk_frozen BK567.out 1
         have p569 : 0 ≤ (x5_2 : Int) := ct_
         have q569 : x5_2 < (l1_0.length : Int) := ct_
         obtain ⟨ad569, e569, hx569_0, hx569_1⟩ := at_T46 HR1_0.out x5_2 p569 q569
         cases e569
         replace hx569_0 := pw_cell_below HB.out hx569_0
         replace hx569_1 := pw_cell_below HB.out hx569_1
         replace p569 := eq_true p569
         replace q569 := eq_true q569
         go_wp2
         repeat (go_quiet (fail); try go_wp2)
         go_ret
         exact ⟨er_, pb_ HB⟩
        rw [if_neg c17] at H
        have c17b0 : (!(((rd_T46 l0_0 x5_2).f0) == ((rd_T46 l1_0 x5_2).f0)) || (!((((rd_T46 l0_0 x5_2).f1).toList) == (((rd_T46 l1_0 x5_2).f1).toList)))) = false := by simpa using c17
        clear c17
        have H' := Aside0.mk H
        clear H
        have hnb21 := NB566_567.out
        have hnc21 := NB567_566.out
        have hcz22_0 := cz_ BK566 0 (.slice A0_0 l0_0.length c0_0)
        have hcz22_1 := cz_ BK566 1 (.int .i64 a0_1)
        have hfz22_0 := blk_frozen BK566.out 0
        have hfz22_1 := blk_frozen BK566.out 1
        have p568 : 0 ≤ (x5_2 : Int) := ct_
        have q568 : x5_2 < (l0_0.length : Int) := ct_
        obtain ⟨ad568, e568, hx568_0, hx568_1⟩ := at_T46 HR0_0.out x5_2 p568 q568
        cases e568
        replace hx568_0 := pw_cell_below HB.out hx568_0
        replace hx568_1 := pw_cell_below HB.out hx568_1
        replace p568 := eq_true p568
        replace q568 := eq_true q568
        have hcz23_0 := cz_ BK567 0 (.slice A1_0 l1_0.length c1_0)
        have hcz23_1 := cz_ BK567 1 (.int .i64 a1_1)
        have hfz23_0 := blk_frozen BK567.out 0
        have hfz23_1 := blk_frozen BK567.out 1
        have p569 : 0 ≤ (x5_2 : Int) := ct_
        have q569 : x5_2 < (l1_0.length : Int) := ct_
        obtain ⟨ad569, e569, hx569_0, hx569_1⟩ := at_T46 HR1_0.out x5_2 p569 q569
        cases e569
        replace hx569_0 := pw_cell_below HB.out hx569_0
        replace hx569_1 := pw_cell_below HB.out hx569_1
        replace p569 := eq_true p569
        replace q569 := eq_true q569
        go_wp2
        repeat (go_quiet (fail); try go_wp2)
        go_roundg k2
        case measure => have := HJ2.out; have := HK2.out; omega
        case rel => exact ⟨(wrap64 (x5_2 + 1)), rl_, H', ⟨by have := HJ2.out; have := HK2.out; omega⟩, ⟨pk_ BK566⟩, ⟨pk_ BK567⟩, ⟨pb_ HB⟩⟩
       rw [if_neg c16] at H
       exact absurd H (by simp)
      rw [if_neg c15] at H
      exact absurd H (by simp)
     rw [if_neg c14] at H
     have c14b0 : decide (x5_2 < (l0_0.length : Int)) = false := decide_eq_false c14
     clear c14
     obtain rfl := Option.some.inj H
     have hnb24 := NB566_567.out
     have hnc24 := NB567_566.out
     have hcz25_0 := cz_ BK566 0 (.slice A0_0 l0_0.length c0_0)
     have hcz25_1 := cz_ BK566 1 (.int .i64 a0_1)
     have hfz25_0 := blk_frozen BK566.out 0
     have hfz25_1 := blk_frozen BK566.out 1
     go_wp2
     repeat (go_quiet (fail); try go_wp2)
     go_ret
     exact ⟨er_, pb_ HB⟩
end Go.Proofs.YtoabahlaicgmjaaDoor.X
end
