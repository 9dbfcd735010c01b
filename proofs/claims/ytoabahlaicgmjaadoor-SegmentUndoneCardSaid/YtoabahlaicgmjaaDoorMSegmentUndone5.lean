-- Texts of this claim joined by merge.py, a program of its author; what this claim does not reach is left out.
import Derived.Test.YtoabahlaicgmjaaDoorMSegmentUndone4
section
namespace Go.Proofs.YtoabahlaicgmjaaDoor.X
open Go.Proofs.YtoabahlaicgmjaaDoor.XW Go.Proofs.YtoabahlaicgmjaaDoor.XS
open Go.RowKit Go.Proofs.YtoabahlaicgmjaaDoorW.PrintWords Go.Proofs.YtoabahlaicgmjaaDoorW.PrintLast Go.Proofs.YtoabahlaicgmjaaDoorW.PrintMore
attribute [local go_sem] max2_int min2_int max_two min_two max_three min_three max_four min_four   -- for this text's walks alone
set_option linter.unusedVariables false
set_option linter.unusedSimpArgs false
def segment_Extended.f (k : Nat) (l0_0 : List (S46)) (a0_1 : Int) (a1 : Int) (a2 : Int) : Option ((List (S46)) × Int × Int) := (segment_find.f k l0_0 a0_1 a1).bind fun bt176 => (if bt176.2 = 0 then ((segment_within.f a2 1 8).bind fun t178 => (if t178 = true then (if 0 ≤ bt176.1 then (if bt176.1 < (l0_0.length : Int) then (if (wrap64 ((wrap64 ((((rd_T46 l0_0 bt176.1).f1).size : Int) / 32)) + a2)) > 8 then (some (([] : List (S46)), 0, 30)) else ((segment_pages.f a2).bind fun t181 => (if ((rd_T46 l0_0 bt176.1).f1).size + t181.size ≤ 9223372036854775807 then ((segment_with.f l0_0 a0_1 bt176.1 (((rd_T46 l0_0 bt176.1).f1) ++ t181)).bind fun bt182 => (some (bt182.1, bt182.2, 0))) else (none)))) else (none)) else (none)) else (some (([] : List (S46)), 0, 3)))) else (some (([] : List (S46)), 0, bt176.2)))
def segment_Extended.T8 : Bool × List (List Nat × List Nat) := (true, [([], []), ([], []), ([], []), ([2], [2]), ([], []), ([3, 4], [3, 4]), ([5], [5]), ([6], [6]), ([], []), ([8], [8]), ([7, 9], [7, 9]), ([0, 1, 10, 9], [0, 1, 10]), ([11, 11, 0, 1, 2, 3, 4, 5, 6, 7, 8, 9, 10, 11], [11]), ([12, 0, 1, 2, 3, 4, 5, 6, 7, 8, 9, 10, 11, 12], [])])
def segment_Extended.B8 : List Nat := [0, 0, 0, 4, 0, 28, 60, 124, 0, 256, 1020, 2047, 4095, 8191]
theorem segment_Extended.tab8 : rtab .any (opsOf Tryd.f42 8) = segment_Extended.T8 := by kernel_rfl
theorem segment_Extended.bits8 : waitsOk segment_Extended.T8.2 segment_Extended.B8 = true := by kernel_rfl
set_option maxHeartbeats 8000000 in
set_option maxRecDepth 100000 in
theorem segment_Extended.calls (k : Nat) (A0_0 : Option Addr) (c0_0 : Nat) (l0_0 : List (S46)) (a0_1 : Int) (a1 : Int) (a2 : Int) (r1 : List (S46)) (r2 : Int) (r3 : Int) (w : World) (hr0_0 : Kd.C k46 w A0_0 l0_0.length l0_0) (hc0_0 : l0_0.length ≤ c0_0) (h : segment_Extended.f k l0_0 a0_1 a1 a2 = some (r1, r2, r3)) :
  Calls Tryd.prog 42 #[.agg #[.slice A0_0 l0_0.length c0_0, .int .i64 a0_1], .int .i64 a1, .int .i64 a2] w fun e w' => ∃ v0_ : Value, e = .returned (.tuple #[.agg #[v0_, .int .i64 r2], .int .i64 r3]) ∧ Kd.R k46 46 w' w.heap.size (fun _ => True) v0_ r1 ∧ Below w.heap.size w w' := by
 have hu24 := Tryd.underlying24
 have HR0_0 := Aside0.mk hr0_0
 have HC0_0 := Aside0.mk hc0_0
 clear hr0_0 hc0_0
 have HB := Aside0.mk (Below.refl w.heap.size w)
 have H : ((segment_find.f k l0_0 a0_1 a1).bind fun bt176 => (if bt176.2 = 0 then ((segment_within.f a2 1 8).bind fun t178 => (if t178 = true then (if 0 ≤ bt176.1 then (if bt176.1 < (l0_0.length : Int) then (if (wrap64 ((wrap64 ((((rd_T46 l0_0 bt176.1).f1).size : Int) / 32)) + a2)) > 8 then (some (([] : List (S46)), 0, 30)) else ((segment_pages.f a2).bind fun t181 => (if ((rd_T46 l0_0 bt176.1).f1).size + t181.size ≤ 9223372036854775807 then ((segment_with.f l0_0 a0_1 bt176.1 (((rd_T46 l0_0 bt176.1).f1) ++ t181)).bind fun bt182 => (some (bt182.1, bt182.2, 0))) else (none)))) else (none)) else (none)) else (some (([] : List (S46)), 0, 3)))) else (some (([] : List (S46)), 0, bt176.2)))) = some (r1, r2, r3) := h
 clear h
 replace H := Option.bind_eq_some_iff.mp H
 obtain ⟨⟨t176, t177⟩, A40, H⟩ := H
 replace H : (if t177 = 0 then ((segment_within.f a2 1 8).bind fun t178 => (if t178 = true then (if 0 ≤ t176 then (if t176 < (l0_0.length : Int) then (if (wrap64 ((wrap64 ((((rd_T46 l0_0 t176).f1).size : Int) / 32)) + a2)) > 8 then (some (([] : List (S46)), 0, 30)) else ((segment_pages.f a2).bind fun t181 => (if ((rd_T46 l0_0 t176).f1).size + t181.size ≤ 9223372036854775807 then ((segment_with.f l0_0 a0_1 t176 (((rd_T46 l0_0 t176).f1) ++ t181)).bind fun bt182 => (some (bt182.1, bt182.2, 0))) else (none)))) else (none)) else (none)) else (some (([] : List (S46)), 0, 3)))) else (some (([] : List (S46)), 0, t177))) = some (r1, r2, r3) := H
 have A4 := Aside0.mk A40
 clear A40
 by_cases c5 : t177 = 0
 ·
  rw [if_pos c5] at H
  have c5b0 : (t177 == 0) = true := beq_iff_eq.mpr c5
  have c5b1 : (t177 != 0) = false := bne_eq_false_iff_eq.mpr c5
  clear c5
  replace H := Option.bind_eq_some_iff.mp H
  obtain ⟨t178, A60, H⟩ := H
  replace H : (if t178 = true then (if 0 ≤ t176 then (if t176 < (l0_0.length : Int) then (if (wrap64 ((wrap64 ((((rd_T46 l0_0 t176).f1).size : Int) / 32)) + a2)) > 8 then (some (([] : List (S46)), 0, 30)) else ((segment_pages.f a2).bind fun t181 => (if ((rd_T46 l0_0 t176).f1).size + t181.size ≤ 9223372036854775807 then ((segment_with.f l0_0 a0_1 t176 (((rd_T46 l0_0 t176).f1) ++ t181)).bind fun bt182 => (some (bt182.1, bt182.2, 0))) else (none)))) else (none)) else (none)) else (some (([] : List (S46)), 0, 3))) = some (r1, r2, r3) := H
  have A6 := Aside0.mk A60
  clear A60
  by_cases c7 : t178 = true
  ·
   subst c7
   have H1 : (if 0 ≤ t176 then (if t176 < (l0_0.length : Int) then (if (wrap64 ((wrap64 ((((rd_T46 l0_0 t176).f1).size : Int) / 32)) + a2)) > 8 then (some (([] : List (S46)), 0, 30)) else ((segment_pages.f a2).bind fun t181 => (if ((rd_T46 l0_0 t176).f1).size + t181.size ≤ 9223372036854775807 then ((segment_with.f l0_0 a0_1 t176 (((rd_T46 l0_0 t176).f1) ++ t181)).bind fun bt182 => (some (bt182.1, bt182.2, 0))) else (none)))) else (none)) else (none)) = some (r1, r2, r3) := by rw [if_pos rfl] at H; exact H
   clear H
   have H := H1
   clear H1
   by_cases c8 : 0 ≤ t176
   ·
    rw [if_pos c8] at H
    have c8b0 : decide (0 ≤ t176) = true := decide_eq_true c8
    clear c8
    by_cases c9 : t176 < (l0_0.length : Int)
    ·
     rw [if_pos c9] at H
     have c9b0 : decide (t176 < (l0_0.length : Int)) = true := decide_eq_true c9
     clear c9
     by_cases c10 : (wrap64 ((wrap64 ((((rd_T46 l0_0 t176).f1).size : Int) / 32)) + a2)) > 8
     ·
      rw [if_pos c10] at H
      have c10b0 : decide (8 < (wrap64 ((wrap64 ((((rd_T46 l0_0 t176).f1).size : Int) / 32)) + a2))) = true := decide_eq_true c10
      clear c10
      simp only [Option.some.injEq, Prod.mk.injEq] at H
      obtain ⟨rfl, rfl, rfl⟩ := H
      go_enter Tryd.func42, Tryd.ntmps42
      go_wp2_with (first | ((with_reducible refine gate_dst (N := 3) rfl ?_); refine bx_ 3 #[.slice A0_0 l0_0.length c0_0, .int .i64 a0_1] 24 ?_; intro gb174 hg w11 hbox hb; have BK174 := Aside0.mk (hbox); have GW174 := gw_ hg HB; have GE174 := gw_ hg HB; replace HB := sb_ HB hb; clear hb hbox hg) | ((with_reducible refine gate_dst (N := 6) rfl ?_); refine bx_ 6 #[.slice none 0 0, .int .i64 0] 24 ?_; intro gb175 hg w12 hbox hb; have BK175 := Aside0.mk (hbox); have GW175 := gw_ hg HB; have GE175 := gw_ hg HB; replace HB := sb_ HB hb; have NB174_175 := nl_ hg BK174; have NB175_174 := ng_ hg BK174; replace BK174 := kb_ BK174 hb; clear hb hbox hg; have hnb13 := NB174_175.out; have hnc13 := NB175_174.out; have hcz14_0 := cz_ BK174 0 (.slice A0_0 l0_0.length c0_0); have hcz14_1 := cz_ BK174 1 (.int .i64 a0_1); have hfz14_0 := blk_frozen BK174.out 0; have hfz14_1 := blk_frozen BK174.out 1) | ((with_reducible refine gate_callee (f := 16) rfl ?_); refine gl_ 13 Tryd.func16 #[.agg #[.slice A0_0 l0_0.length c0_0, .int .i64 a0_1], .int .i64 a1] ?_; (with_reducible refine (segment_find.calls k _ _ l0_0 a0_1 a1 t176 t177 _ ?side1 ?side2 A4.out).mono ?_); (case side1 => exact pc_ (Kd.C_below HR0_0.out HB.out)); (case side2 => exact HC0_0.out); rintro e w15 ⟨rfl, hb⟩; refine ⟨_, rfl, ?_⟩; replace BK174 := kb_ BK174 hb; replace BK175 := kb_ BK175 hb; replace HB := sb_ HB hb; (try clear hb); (try clear hb2); (try clear hk); (try clear hi)) | ((with_reducible refine gate_callee (f := 25) rfl ?_); refine gl_ 23 Tryd.func25 #[.int .i64 a2, .int .i64 1, .int .i64 8] ?_; (with_reducible refine (segment_within.calls a2 1 8 true _ A6.out).mono ?_); rintro e w' ⟨rfl, ⟨nd, rfl⟩⟩; refine ⟨_, rfl, ?_⟩; (try (rw [drewN_self w15]; generalize hq_ : World.drewN w15 _ = w15; have n0_ : Aside0 (w15.heap[gb174]? = some (.cells #[.slice A0_0 l0_0.length c0_0, .int .i64 a0_1] 24 (0, 0))) := ⟨by rw [← hq_]; exact (pk_ BK174)⟩; have n1_ : Aside0 (w15.heap[gb175]? = some (.cells #[.slice none 0 0, .int .i64 0] 24 (0, 0))) := ⟨by rw [← hq_]; exact (pk_ BK175)⟩; have n2_ : Aside0 (Below w.heap.size w w15) := ⟨by rw [← hq_]; exact (pb_ HB)⟩; clear BK174 BK175 HB hq_; have BK174 := n0_; have BK175 := n1_; have HB := n2_; clear n0_ n1_ n2_)); have hcz16_0 := cz_ BK174 0 (.slice A0_0 l0_0.length c0_0); have hcz16_1 := cz_ BK174 1 (.int .i64 a0_1); have hfz16_0 := blk_frozen BK174.out 0; have hfz16_1 := blk_frozen BK174.out 1; have p179 : 0 ≤ (t176 : Int) := ct_; have q179 : t176 < (l0_0.length : Int) := ct_; obtain ⟨ad179, e179, hx179_0, hx179_1⟩ := at_T46 HR0_0.out t176 p179 q179; cases e179; replace hx179_0 := pw_cell_below HB.out hx179_0; replace hx179_1 := pw_cell_below HB.out hx179_1; replace p179 := eq_true p179; replace q179 := eq_true q179; have hcz17_0 := cz_ BK175 0 (.slice none 0 0); have hcz17_1 := cz_ BK175 1 (.int .i64 0); have hfz17_0 := blk_frozen BK175.out 0; have hfz17_1 := blk_frozen BK175.out 1))
      refine bodyPost_ret (results_ct rfl _ _ gb175 24 #[.slice none 0 0, .int .i64 0] (0, 0) _ rfl (bq_ BK175) Tryd.underlying24 rfl (by kernel_rfl)) rfl ?_
      exact ⟨_, er_, by first | exact Kd.R_nil _ _ _ _ _ | exact Kd.N_nil _ _ _ _ _ | exact Kd.V_nil _ _ _ _ _ | exact Kd.Q_nil _ _ _ _ _ | exact Kd.S_nil _ _ _ _ _, pb_ HB⟩
     rw [if_neg c10] at H
     have c10b0 : decide (8 < (wrap64 ((wrap64 ((((rd_T46 l0_0 t176).f1).size : Int) / 32)) + a2))) = false := decide_eq_false c10
     clear c10
     replace H := Option.bind_eq_some_iff.mp H
     obtain ⟨t181, A180, H⟩ := H
     replace H : (if ((rd_T46 l0_0 t176).f1).size + t181.size ≤ 9223372036854775807 then ((segment_with.f l0_0 a0_1 t176 (((rd_T46 l0_0 t176).f1) ++ t181)).bind fun bt182 => (some (bt182.1, bt182.2, 0))) else (none)) = some (r1, r2, r3) := H
     have A18 := Aside0.mk A180
     clear A180
     by_cases c19 : ((rd_T46 l0_0 t176).f1).size + t181.size ≤ 9223372036854775807
     ·
      rw [if_pos c19] at H
      have c19b0 := eq_true c19
      have c19b1 : decide (((rd_T46 l0_0 t176).f1).size + t181.size ≤ 9223372036854775807) = true := decide_eq_true c19
      try have c19b2 : (9223372036854775807 < ((rd_T46 l0_0 t176).f1).size + t181.size) = False := eq_false (Nat.not_lt.2 c19)
      clear c19
      replace H := Option.bind_eq_some_iff.mp H
      obtain ⟨⟨t182, t185⟩, A200, H⟩ := H
      replace H : (some (t182, t185, 0)) = some (r1, r2, r3) := H
      have A20 := Aside0.mk A200
      clear A200
      simp only [Option.some.injEq, Prod.mk.injEq] at H
      obtain ⟨rfl, rfl, rfl⟩ := H
      go_enter Tryd.func42, Tryd.ntmps42
      try go_wp2_with (first | ((with_reducible refine gate_dst (N := 3) rfl ?_); refine bx_ 3 #[.slice A0_0 l0_0.length c0_0, .int .i64 a0_1] 24 ?_; intro gb174 hg w21 hbox hb; have BK174 := Aside0.mk (hbox); have GW174 := gw_ hg HB; have GE174 := gw_ hg HB; replace HB := sb_ HB hb; clear hb hbox hg) | ((with_reducible refine gate_dst (N := 6) rfl ?_); refine bx_ 6 #[.slice none 0 0, .int .i64 0] 24 ?_; intro gb175 hg w22 hbox hb; have BK175 := Aside0.mk (hbox); have GW175 := gw_ hg HB; have GE175 := gw_ hg HB; replace HB := sb_ HB hb; have NB174_175 := nl_ hg BK174; have NB175_174 := ng_ hg BK174; replace BK174 := kb_ BK174 hb; clear hb hbox hg; have hnb23 := NB174_175.out; have hnc23 := NB175_174.out; have hcz24_0 := cz_ BK174 0 (.slice A0_0 l0_0.length c0_0); have hcz24_1 := cz_ BK174 1 (.int .i64 a0_1); have hfz24_0 := blk_frozen BK174.out 0; have hfz24_1 := blk_frozen BK174.out 1) | ((with_reducible refine gate_callee (f := 16) rfl ?_); refine gl_ 13 Tryd.func16 #[.agg #[.slice A0_0 l0_0.length c0_0, .int .i64 a0_1], .int .i64 a1] ?_; (with_reducible refine (segment_find.calls k _ _ l0_0 a0_1 a1 t176 t177 _ ?side1 ?side2 A4.out).mono ?_); (case side1 => exact pc_ (Kd.C_below HR0_0.out HB.out)); (case side2 => exact HC0_0.out); rintro e w25 ⟨rfl, hb⟩; refine ⟨_, rfl, ?_⟩; replace BK174 := kb_ BK174 hb; replace BK175 := kb_ BK175 hb; replace HB := sb_ HB hb; (try clear hb); (try clear hb2); (try clear hk); (try clear hi)) | ((with_reducible refine gate_callee (f := 25) rfl ?_); refine gl_ 23 Tryd.func25 #[.int .i64 a2, .int .i64 1, .int .i64 8] ?_; (with_reducible refine (segment_within.calls a2 1 8 true _ A6.out).mono ?_); rintro e w' ⟨rfl, ⟨nd, rfl⟩⟩; refine ⟨_, rfl, ?_⟩; (try (rw [drewN_self w25]; generalize hq_ : World.drewN w25 _ = w25; have n0_ : Aside0 (w25.heap[gb174]? = some (.cells #[.slice A0_0 l0_0.length c0_0, .int .i64 a0_1] 24 (0, 0))) := ⟨by rw [← hq_]; exact (pk_ BK174)⟩; have n1_ : Aside0 (w25.heap[gb175]? = some (.cells #[.slice none 0 0, .int .i64 0] 24 (0, 0))) := ⟨by rw [← hq_]; exact (pk_ BK175)⟩; have n2_ : Aside0 (Below w.heap.size w w25) := ⟨by rw [← hq_]; exact (pb_ HB)⟩; clear BK174 BK175 HB hq_; have BK174 := n0_; have BK175 := n1_; have HB := n2_; clear n0_ n1_ n2_)); have hcz26_0 := cz_ BK174 0 (.slice A0_0 l0_0.length c0_0); have hcz26_1 := cz_ BK174 1 (.int .i64 a0_1); have hfz26_0 := blk_frozen BK174.out 0; have hfz26_1 := blk_frozen BK174.out 1; have p179 : 0 ≤ (t176 : Int) := ct_; have q179 : t176 < (l0_0.length : Int) := ct_; obtain ⟨ad179, e179, hx179_0, hx179_1⟩ := at_T46 HR0_0.out t176 p179 q179; cases e179; replace hx179_0 := pw_cell_below HB.out hx179_0; replace hx179_1 := pw_cell_below HB.out hx179_1; replace p179 := eq_true p179; replace q179 := eq_true q179))
      replace BK174 := Aside0.mk (blk_drew BK174.out)
      replace BK175 := Aside0.mk (blk_drew BK175.out)
      replace HB := Aside0.mk (below_drew1 HB.out)
      have p180 : 0 ≤ (t176 : Int) := ct_
      have q180 : t176 < (l0_0.length : Int) := ct_
      obtain ⟨ad180, e180, hx180_0, hx180_1⟩ := at_T46 HR0_0.out t176 p180 q180
      have hw180_1 := hx180_1
      have hw180_0 := hx180_0
      obtain rfl : ad179 = ad180 := (by injection e180)
      replace hx180_0 := pw_cell_below HB.out hx180_0
      replace hx180_1 := pw_cell_below HB.out hx180_1
      replace p180 := eq_true p180
      replace q180 := eq_true q180
      refine start_ (n := 14) (S := fun w' => w'.cell? ⟨gb174, 0, none⟩ = some (.slice (some ad179) l0_0.length c0_0) ∧ w'.cell? ⟨gb174, 1, none⟩ = some (.int .i64 a0_1) ∧ w'.cell? (ad179.add ((t176).toNat * 2)) = some (.int .i64 ((rd_T46 l0_0 t176).f0)) ∧ w'.cell? ⟨(ad179.add ((t176).toNat * 2)).block, (ad179.add ((t176).toNat * 2)).off + 1, none⟩ = some (.string ((rd_T46 l0_0 t176).f1))) (ds := []) #[false, false, false, false, false, false, false, false, false, false, false, false, false, false] (by kernel_rfl) rfl rfl ⟨cy_ BK174 0, cy_ BK174 1, (pw_cell_below HB.out hw180_0), (pw_cell_below HB.out hw180_1)⟩ (fun hHeld => ?_); refine with_tabW segment_Extended.tab8 segment_Extended.bits8 (fun HT_ HW_ => ?_)
      generalize w25.drew = w27 at BK174 BK175 HB hx180_0 hx180_1 hHeld ⊢
      refine pu_ 1 40 HT_ ?_
      refine pu_ 2 41 HT_ ?_
      refine pu_ 4 43 HT_ ?_
      refine pu_ 8 47 HT_ ?_
      refine tk_ 0 39 HT_ HW_ hHeld rfl (Or.inl ⟨by rfl, by rintro w' ⟨s0, s1, s2, s3⟩; go_simp; with_reducible rfl⟩) ?_
      refine tk_ 3 42 HT_ HW_ hHeld rfl (Or.inl ⟨by rfl, by rintro w' ⟨s0, s1, s2, s3⟩; go_simp; with_reducible rfl⟩) ?_
      refine pu_ 5 44 HT_ ?_
      refine pu_ 6 45 HT_ ?_
      refine tk_ 7 46 HT_ HW_ hHeld rfl (Or.inl ⟨by rfl, by rintro w' ⟨s0, s1, s2, s3⟩; go_simp; with_reducible rfl⟩) ?_
      refine one_ (i := 9) (N := some 48) #[true, true, true, true, true, true, true, true, true, true, false, false, false, false] rfl rfl (one_of HT_.out (by kernel_rfl)) (by decide) (fun K hK => ?_)
      refine goes_ Tryd.func26 (by kernel_rfl) rfl #[.int .i64 a2] (by rfl) rfl rfl (by (try simp only [List.map_toArray, List.map_cons, List.map_nil]); first | done | rfl | (simp only [List.length_drop, List.length_take]; rfl)) ?_
      with_reducible refine (segment_pages.calls a2 t181 _ A18.out).mono ?_
      rintro e w28 ⟨rfl, hb⟩
      refine ⟨_, rfl, ?_⟩
      replace BK174 := kb_ BK174 hb
      replace BK175 := kb_ BK175 hb
      replace HB := sb_ HB hb
      (try clear hb)
      (try clear hb2)
      (try clear hk)
      (try clear hi)
      refine hK.out _ _ ⟨cy_ BK174 0, cy_ BK174 1, (pw_cell_below HB.out hw180_0), (pw_cell_below HB.out hw180_1)⟩ (fun hHeld => ?_)
      clear hK K
      refine nn_ 48 ?_
      refine pu_ 10 49 HT_ ?_
      refine one_ (i := 11) (N := some 50) #[true, true, true, true, true, true, true, true, true, true, true, true, false, false] rfl rfl (one_of HT_.out (by kernel_rfl)) (by decide) (fun K hK => ?_)
      refine goes_ Tryd.func57 (by kernel_rfl) rfl #[.agg #[.slice (some ad179) l0_0.length c0_0, .int .i64 a0_1], .int .i64 t176, .string (((rd_T46 l0_0 t176).f1) ++ t181)] (by rfl) rfl rfl (by (try simp only [List.map_toArray, List.map_cons, List.map_nil]); first | done | rfl | (simp only [List.length_drop, List.length_take]; rfl)) ?_
      with_reducible refine (segment_with.calls _ _ l0_0 a0_1 t176 (((rd_T46 l0_0 t176).f1) ++ t181) t182 t185 _ ?side1 ?side2 A20.out).mono ?_
      (case side1 => exact pc_ (Kd.C_below HR0_0.out HB.out))
      (case side2 => exact HC0_0.out)
      rintro e w29 ⟨v183, rfl, ho0, hb⟩
      refine ⟨_, rfl, ?_⟩
      have HO184 := Aside0.mk (Kd.R_lower ho0 (below_size (pb_ HB)))
      replace BK174 := kb_ BK174 hb
      replace BK175 := kb_ BK175 hb
      replace HB := sb_ HB hb
      (try clear hb)
      (try clear hb2)
      (try clear hk)
      (try clear hi)
      (try clear ho0)
      obtain ⟨Ao30, co30, eo30⟩ := Kd.R_slice HO184.out
      (first | subst eo30 | (injection eo30 with f1_ f2_ f3_; have f4_ := f1_.symm; have f5_ := f3_.symm; clear f1_ f2_ f3_; subst f4_; subst f5_))
      refine hK.out _ _ ⟨cy_ BK174 0, cy_ BK174 1, (pw_cell_below HB.out hw180_0), (pw_cell_below HB.out hw180_1)⟩ (fun hHeld => ?_)
      clear hK K
      refine nn_ 50 ?_
      refine one_ (i := 12) (N := none) #[true, true, true, true, true, true, true, true, true, true, true, true, true, false] rfl rfl (one_of HT_.out (by kernel_rfl)) (by decide) (fun K hK => ?_)
      have hs31 : w29.cell? ⟨gb175, 0, none⟩ = some (.slice none 0 0) := (blk_cell BK175.out 0).trans rfl
      have hfs31 := blk_frozen BK175.out 0
      have hns31_0 := NB174_175.out
      have hms31_0 := NB175_174.out
      have hs32 : w29.cell? ⟨gb175, 1, none⟩ = some (.int .i64 0) := (blk_cell BK175.out 1).trans rfl
      have hfs32 := blk_frozen BK175.out 1
      have hns32_0 := NB174_175.out
      have hms32_0 := NB175_174.out
      refine skip_ (w1 := ?_) (by rfl) rfl ?_ ?_
      rotate_left
      ·
       go_simp
       rfl
      refine hK.out _ _ ⟨((cell_far (p := ⟨gb175, _, none⟩) NB174_175.out _).trans (((cell_far (p := ⟨gb175, _, none⟩) NB174_175.out _).trans (hHeld.1)))), ((cell_far (p := ⟨gb175, _, none⟩) NB174_175.out _).trans (((cell_far (p := ⟨gb175, _, none⟩) NB174_175.out _).trans (hHeld.2.1)))), ((cell_far (p := ⟨gb175, _, none⟩) (nf_ hw180_0 GW175) _).trans (((cell_far (p := ⟨gb175, _, none⟩) (nf_ hw180_0 GW175) _).trans (hHeld.2.2.1)))), ((cell_far (p := ⟨gb175, _, none⟩) (nf_ hw180_1 GW175) _).trans (((cell_far (p := ⟨gb175, _, none⟩) (nf_ hw180_1 GW175) _).trans (hHeld.2.2.2))))⟩ (fun hHeld => ?_)
      clear hK K
      refine pu_ 13 7 HT_ ?_
      refine done_ (done_of HT_.out (by kernel_rfl)) ?_
      try go_wp2
      refine bodyPost_ret (results_ct rfl _ _ gb175 24 #[.slice Ao30 t182.length co30, .int .i64 t185] (0, 0) _ rfl (bq_ BK175) Tryd.underlying24 rfl (by kernel_rfl)) rfl ?_
      exact ⟨_, er_, by (with_reducible repeat (first | apply Kd.R_alloc | apply Kd.R_drewN | apply Kd.R_drew)); exact Kd.R_mono (Kd.R_far (p := ⟨gb175, 1, none⟩) (Kd.R_far (p := ⟨gb175, 0, none⟩) (Kd.R_types HO184.out BK175.out (by decide)) (fun _ hk => hk.2) (.slice Ao30 t182.length co30)) (fun _ hk => hk.2) (.int .i64 t185)) (fun _ hk => trivial), pb_ HB⟩
     rw [if_neg c19] at H
     exact absurd H (by simp)
    rw [if_neg c9] at H
    exact absurd H (by simp)
   rw [if_neg c8] at H
   exact absurd H (by simp)
  replace c7 := Bool.eq_false_iff.mpr c7
  subst c7
  have H1 : (some (([] : List (S46)), 0, 3)) = some (r1, r2, r3) := by rw [if_neg (show ¬ (false = true) by decide)] at H; exact H
  clear H
  have H := H1
  clear H1
  simp only [Option.some.injEq, Prod.mk.injEq] at H
  obtain ⟨rfl, rfl, rfl⟩ := H
  go_enter Tryd.func42, Tryd.ntmps42
  go_wp2_with (first | ((with_reducible refine gate_dst (N := 3) rfl ?_); refine bx_ 3 #[.slice A0_0 l0_0.length c0_0, .int .i64 a0_1] 24 ?_; intro gb174 hg w33 hbox hb; have BK174 := Aside0.mk (hbox); have GW174 := gw_ hg HB; have GE174 := gw_ hg HB; replace HB := sb_ HB hb; clear hb hbox hg) | ((with_reducible refine gate_dst (N := 6) rfl ?_); refine bx_ 6 #[.slice none 0 0, .int .i64 0] 24 ?_; intro gb175 hg w34 hbox hb; have BK175 := Aside0.mk (hbox); have GW175 := gw_ hg HB; have GE175 := gw_ hg HB; replace HB := sb_ HB hb; have NB174_175 := nl_ hg BK174; have NB175_174 := ng_ hg BK174; replace BK174 := kb_ BK174 hb; clear hb hbox hg; have hnb35 := NB174_175.out; have hnc35 := NB175_174.out; have hcz36_0 := cz_ BK174 0 (.slice A0_0 l0_0.length c0_0); have hcz36_1 := cz_ BK174 1 (.int .i64 a0_1); have hfz36_0 := blk_frozen BK174.out 0; have hfz36_1 := blk_frozen BK174.out 1) | ((with_reducible refine gate_callee (f := 16) rfl ?_); refine gl_ 13 Tryd.func16 #[.agg #[.slice A0_0 l0_0.length c0_0, .int .i64 a0_1], .int .i64 a1] ?_; (with_reducible refine (segment_find.calls k _ _ l0_0 a0_1 a1 t176 t177 _ ?side1 ?side2 A4.out).mono ?_); (case side1 => exact pc_ (Kd.C_below HR0_0.out HB.out)); (case side2 => exact HC0_0.out); rintro e w37 ⟨rfl, hb⟩; refine ⟨_, rfl, ?_⟩; replace BK174 := kb_ BK174 hb; replace BK175 := kb_ BK175 hb; replace HB := sb_ HB hb; (try clear hb); (try clear hb2); (try clear hk); (try clear hi)) | ((with_reducible refine gate_callee (f := 25) rfl ?_); refine gl_ 23 Tryd.func25 #[.int .i64 a2, .int .i64 1, .int .i64 8] ?_; (with_reducible refine (segment_within.calls a2 1 8 false _ A6.out).mono ?_); rintro e w' ⟨rfl, ⟨nd, rfl⟩⟩; refine ⟨_, rfl, ?_⟩; (try (rw [drewN_self w37]; generalize hq_ : World.drewN w37 _ = w37; have n0_ : Aside0 (w37.heap[gb174]? = some (.cells #[.slice A0_0 l0_0.length c0_0, .int .i64 a0_1] 24 (0, 0))) := ⟨by rw [← hq_]; exact (pk_ BK174)⟩; have n1_ : Aside0 (w37.heap[gb175]? = some (.cells #[.slice none 0 0, .int .i64 0] 24 (0, 0))) := ⟨by rw [← hq_]; exact (pk_ BK175)⟩; have n2_ : Aside0 (Below w.heap.size w w37) := ⟨by rw [← hq_]; exact (pb_ HB)⟩; clear BK174 BK175 HB hq_; have BK174 := n0_; have BK175 := n1_; have HB := n2_; clear n0_ n1_ n2_)); have hcz38_0 := cz_ BK175 0 (.slice none 0 0); have hcz38_1 := cz_ BK175 1 (.int .i64 0); have hfz38_0 := blk_frozen BK175.out 0; have hfz38_1 := blk_frozen BK175.out 1))
  refine bodyPost_ret (results_ct rfl _ _ gb175 24 #[.slice none 0 0, .int .i64 0] (0, 0) _ rfl (bq_ BK175) Tryd.underlying24 rfl (by kernel_rfl)) rfl ?_
  exact ⟨_, er_, by first | exact Kd.R_nil _ _ _ _ _ | exact Kd.N_nil _ _ _ _ _ | exact Kd.V_nil _ _ _ _ _ | exact Kd.Q_nil _ _ _ _ _ | exact Kd.S_nil _ _ _ _ _, pb_ HB⟩
 rw [if_neg c5] at H
 have c5b0 : (t177 == 0) = false := beq_eq_false_iff_ne.mpr c5
 have c5b1 : (t177 != 0) = true := bne_iff_ne.mpr c5
 simp only [Option.some.injEq, Prod.mk.injEq] at H
 obtain ⟨rfl, rfl, rfl⟩ := H
 go_enter Tryd.func42, Tryd.ntmps42
 go_wp2_with (first | ((with_reducible refine gate_dst (N := 3) rfl ?_); refine bx_ 3 #[.slice A0_0 l0_0.length c0_0, .int .i64 a0_1] 24 ?_; intro gb174 hg w39 hbox hb; have BK174 := Aside0.mk (hbox); have GW174 := gw_ hg HB; have GE174 := gw_ hg HB; replace HB := sb_ HB hb; clear hb hbox hg) | ((with_reducible refine gate_dst (N := 6) rfl ?_); refine bx_ 6 #[.slice none 0 0, .int .i64 0] 24 ?_; intro gb175 hg w40 hbox hb; have BK175 := Aside0.mk (hbox); have GW175 := gw_ hg HB; have GE175 := gw_ hg HB; replace HB := sb_ HB hb; have NB174_175 := nl_ hg BK174; have NB175_174 := ng_ hg BK174; replace BK174 := kb_ BK174 hb; clear hb hbox hg; have hnb41 := NB174_175.out; have hnc41 := NB175_174.out; have hcz42_0 := cz_ BK174 0 (.slice A0_0 l0_0.length c0_0); have hcz42_1 := cz_ BK174 1 (.int .i64 a0_1); have hfz42_0 := blk_frozen BK174.out 0; have hfz42_1 := blk_frozen BK174.out 1) | ((with_reducible refine gate_callee (f := 16) rfl ?_); refine gl_ 13 Tryd.func16 #[.agg #[.slice A0_0 l0_0.length c0_0, .int .i64 a0_1], .int .i64 a1] ?_; (with_reducible refine (segment_find.calls k _ _ l0_0 a0_1 a1 t176 t177 _ ?side1 ?side2 A4.out).mono ?_); (case side1 => exact pc_ (Kd.C_below HR0_0.out HB.out)); (case side2 => exact HC0_0.out); rintro e w43 ⟨rfl, hb⟩; refine ⟨_, rfl, ?_⟩; replace BK174 := kb_ BK174 hb; replace BK175 := kb_ BK175 hb; replace HB := sb_ HB hb; (try clear hb); (try clear hb2); (try clear hk); (try clear hi); have hcz44_0 := cz_ BK175 0 (.slice none 0 0); have hcz44_1 := cz_ BK175 1 (.int .i64 0); have hfz44_0 := blk_frozen BK175.out 0; have hfz44_1 := blk_frozen BK175.out 1))
 refine bodyPost_ret (results_ct rfl _ _ gb175 24 #[.slice none 0 0, .int .i64 0] (0, 0) _ rfl (bq_ BK175) Tryd.underlying24 rfl (by kernel_rfl)) rfl ?_
 exact ⟨_, er_, by first | exact Kd.R_nil _ _ _ _ _ | exact Kd.N_nil _ _ _ _ _ | exact Kd.V_nil _ _ _ _ _ | exact Kd.Q_nil _ _ _ _ _ | exact Kd.S_nil _ _ _ _ _, pb_ HB⟩
def segment_Truncated.f (k : Nat) (l0_0 : List (S46)) (a0_1 : Int) (a1 : Int) (a2 : Int) : Option ((List (S46)) × Int × Int) := (segment_find.f k l0_0 a0_1 a1).bind fun bt188 => (if bt188.2 = 0 then (if 0 ≤ bt188.1 then (if bt188.1 < (l0_0.length : Int) then ((segment_within.f a2 1 (wrap64 ((((rd_T46 l0_0 bt188.1).f1).size : Int) / 32))).bind fun t191 => (if t191 = true then (if 0 ≤ (wrap64 (a2 * 32)) then (if (wrap64 (a2 * 32)) ≤ (((rd_T46 l0_0 bt188.1).f1).size : Int) then ((segment_with.f l0_0 a0_1 bt188.1 (((rd_T46 l0_0 bt188.1).f1).extract 0 ((wrap64 (a2 * 32)) : Int).toNat)).bind fun bt193 => (some (bt193.1, bt193.2, 0))) else (none)) else (none)) else (some (([] : List (S46)), 0, 3)))) else (none)) else (none)) else (some (([] : List (S46)), 0, bt188.2)))
def segment_Truncated.T6 : Bool × List (List Nat × List Nat) := (true, [([], []), ([], []), ([], []), ([2], [2]), ([], []), ([3, 4], [3, 4]), ([5], [5]), ([6], [6]), ([], []), ([8], [8]), ([7, 9], [7, 9]), ([0, 1, 10], [0, 1, 10]), ([11, 11, 0, 1, 2, 3, 4, 5, 6, 7, 8, 9, 10, 11], [11]), ([12, 0, 1, 2, 3, 4, 5, 6, 7, 8, 9, 10, 11, 12], [])])
def segment_Truncated.B6 : List Nat := [0, 0, 0, 4, 0, 28, 60, 124, 0, 256, 1020, 2047, 4095, 8191]
theorem segment_Truncated.tab6 : rtab .any (opsOf Tryd.f43 6) = segment_Truncated.T6 := by kernel_rfl
theorem segment_Truncated.bits6 : waitsOk segment_Truncated.T6.2 segment_Truncated.B6 = true := by kernel_rfl
set_option maxHeartbeats 8000000 in
set_option maxRecDepth 100000 in
theorem segment_Truncated.calls (k : Nat) (A0_0 : Option Addr) (c0_0 : Nat) (l0_0 : List (S46)) (a0_1 : Int) (a1 : Int) (a2 : Int) (r1 : List (S46)) (r2 : Int) (r3 : Int) (w : World) (hr0_0 : Kd.C k46 w A0_0 l0_0.length l0_0) (hc0_0 : l0_0.length ≤ c0_0) (h : segment_Truncated.f k l0_0 a0_1 a1 a2 = some (r1, r2, r3)) :
  Calls Tryd.prog 43 #[.agg #[.slice A0_0 l0_0.length c0_0, .int .i64 a0_1], .int .i64 a1, .int .i64 a2] w fun e w' => ∃ v0_ : Value, e = .returned (.tuple #[.agg #[v0_, .int .i64 r2], .int .i64 r3]) ∧ Kd.R k46 46 w' w.heap.size (fun _ => True) v0_ r1 ∧ Below w.heap.size w w' := by
 have hu24 := Tryd.underlying24
 have HR0_0 := Aside0.mk hr0_0
 have HC0_0 := Aside0.mk hc0_0
 clear hr0_0 hc0_0
 have HB := Aside0.mk (Below.refl w.heap.size w)
 have H : ((segment_find.f k l0_0 a0_1 a1).bind fun bt188 => (if bt188.2 = 0 then (if 0 ≤ bt188.1 then (if bt188.1 < (l0_0.length : Int) then ((segment_within.f a2 1 (wrap64 ((((rd_T46 l0_0 bt188.1).f1).size : Int) / 32))).bind fun t191 => (if t191 = true then (if 0 ≤ (wrap64 (a2 * 32)) then (if (wrap64 (a2 * 32)) ≤ (((rd_T46 l0_0 bt188.1).f1).size : Int) then ((segment_with.f l0_0 a0_1 bt188.1 (((rd_T46 l0_0 bt188.1).f1).extract 0 ((wrap64 (a2 * 32)) : Int).toNat)).bind fun bt193 => (some (bt193.1, bt193.2, 0))) else (none)) else (none)) else (some (([] : List (S46)), 0, 3)))) else (none)) else (none)) else (some (([] : List (S46)), 0, bt188.2)))) = some (r1, r2, r3) := h
 clear h
 replace H := Option.bind_eq_some_iff.mp H
 obtain ⟨⟨t188, t189⟩, A40, H⟩ := H
 replace H : (if t189 = 0 then (if 0 ≤ t188 then (if t188 < (l0_0.length : Int) then ((segment_within.f a2 1 (wrap64 ((((rd_T46 l0_0 t188).f1).size : Int) / 32))).bind fun t191 => (if t191 = true then (if 0 ≤ (wrap64 (a2 * 32)) then (if (wrap64 (a2 * 32)) ≤ (((rd_T46 l0_0 t188).f1).size : Int) then ((segment_with.f l0_0 a0_1 t188 (((rd_T46 l0_0 t188).f1).extract 0 ((wrap64 (a2 * 32)) : Int).toNat)).bind fun bt193 => (some (bt193.1, bt193.2, 0))) else (none)) else (none)) else (some (([] : List (S46)), 0, 3)))) else (none)) else (none)) else (some (([] : List (S46)), 0, t189))) = some (r1, r2, r3) := H
 have A4 := Aside0.mk A40
 clear A40
 by_cases c5 : t189 = 0
 ·
  rw [if_pos c5] at H
  have c5b0 : (t189 == 0) = true := beq_iff_eq.mpr c5
  have c5b1 : (t189 != 0) = false := bne_eq_false_iff_eq.mpr c5
  clear c5
  by_cases c6 : 0 ≤ t188
  ·
   rw [if_pos c6] at H
   have c6b0 : decide (0 ≤ t188) = true := decide_eq_true c6
   clear c6
   by_cases c7 : t188 < (l0_0.length : Int)
   ·
    rw [if_pos c7] at H
    have c7b0 : decide (t188 < (l0_0.length : Int)) = true := decide_eq_true c7
    clear c7
    replace H := Option.bind_eq_some_iff.mp H
    obtain ⟨t191, A80, H⟩ := H
    replace H : (if t191 = true then (if 0 ≤ (wrap64 (a2 * 32)) then (if (wrap64 (a2 * 32)) ≤ (((rd_T46 l0_0 t188).f1).size : Int) then ((segment_with.f l0_0 a0_1 t188 (((rd_T46 l0_0 t188).f1).extract 0 ((wrap64 (a2 * 32)) : Int).toNat)).bind fun bt193 => (some (bt193.1, bt193.2, 0))) else (none)) else (none)) else (some (([] : List (S46)), 0, 3))) = some (r1, r2, r3) := H
    have A8 := Aside0.mk A80
    clear A80
    by_cases c9 : t191 = true
    ·
     subst c9
     have H1 : (if 0 ≤ (wrap64 (a2 * 32)) then (if (wrap64 (a2 * 32)) ≤ (((rd_T46 l0_0 t188).f1).size : Int) then ((segment_with.f l0_0 a0_1 t188 (((rd_T46 l0_0 t188).f1).extract 0 ((wrap64 (a2 * 32)) : Int).toNat)).bind fun bt193 => (some (bt193.1, bt193.2, 0))) else (none)) else (none)) = some (r1, r2, r3) := by rw [if_pos rfl] at H; exact H
     clear H
     have H := H1
     clear H1
     obtain ⟨ji10, hji10⟩ : ∃ j_ : Int, (wrap64 (a2 * 32)) = j_ := ⟨_, rfl⟩
     replace H : (if 0 ≤ (ji10) then (if (ji10) ≤ (((rd_T46 l0_0 t188).f1).size : Int) then ((segment_with.f l0_0 a0_1 t188 (((rd_T46 l0_0 t188).f1).extract 0 ((ji10) : Int).toNat)).bind fun bt193 => (some (bt193.1, bt193.2, 0))) else (none)) else (none)) = some (r1, r2, r3) := by first | (rw [hji10] at H; exact H) | (simp only [hji10] at H ⊢; exact H)
     (try rw [hji10] at A4)
     (try rw [hji10] at A8)
     have hji10w : (IntKind.i64.wrap (a2 * 32)) = ji10 := (i64_w _).trans hji10
     by_cases c11 : 0 ≤ (ji10)
     ·
      rw [if_pos c11] at H
      have c11b0 := eq_true c11
      have c11b1 : decide (0 ≤ (ji10)) = true := decide_eq_true c11
      clear c11
      by_cases c12 : (ji10) ≤ (((rd_T46 l0_0 t188).f1).size : Int)
      ·
       rw [if_pos c12] at H
       have c12b0 := eq_true c12
       have c12b1 : decide ((ji10) ≤ (((rd_T46 l0_0 t188).f1).size : Int)) = true := decide_eq_true c12
       clear c12
       replace H := Option.bind_eq_some_iff.mp H
       obtain ⟨⟨t193, t196⟩, A130, H⟩ := H
       replace H : (some (t193, t196, 0)) = some (r1, r2, r3) := H
       have A13 := Aside0.mk A130
       clear A130
       simp only [Option.some.injEq, Prod.mk.injEq] at H
       obtain ⟨rfl, rfl, rfl⟩ := H
       go_enter Tryd.func43, Tryd.ntmps43
       try go_wp2_with (first | ((with_reducible refine gate_dst (N := 3) rfl ?_); refine bx_ 3 #[.slice A0_0 l0_0.length c0_0, .int .i64 a0_1] 24 ?_; intro gb186 hg w14 hbox hb; have BK186 := Aside0.mk (hbox); have GW186 := gw_ hg HB; have GE186 := gw_ hg HB; replace HB := sb_ HB hb; clear hb hbox hg) | ((with_reducible refine gate_dst (N := 6) rfl ?_); refine bx_ 6 #[.slice none 0 0, .int .i64 0] 24 ?_; intro gb187 hg w15 hbox hb; have BK187 := Aside0.mk (hbox); have GW187 := gw_ hg HB; have GE187 := gw_ hg HB; replace HB := sb_ HB hb; have NB186_187 := nl_ hg BK186; have NB187_186 := ng_ hg BK186; replace BK186 := kb_ BK186 hb; clear hb hbox hg; have hnb16 := NB186_187.out; have hnc16 := NB187_186.out; have hcz17_0 := cz_ BK186 0 (.slice A0_0 l0_0.length c0_0); have hcz17_1 := cz_ BK186 1 (.int .i64 a0_1); have hfz17_0 := blk_frozen BK186.out 0; have hfz17_1 := blk_frozen BK186.out 1) | ((with_reducible refine gate_callee (f := 16) rfl ?_); refine gl_ 13 Tryd.func16 #[.agg #[.slice A0_0 l0_0.length c0_0, .int .i64 a0_1], .int .i64 a1] ?_; (with_reducible refine (segment_find.calls k _ _ l0_0 a0_1 a1 t188 t189 _ ?side1 ?side2 A4.out).mono ?_); (case side1 => exact pc_ (Kd.C_below HR0_0.out HB.out)); (case side2 => exact HC0_0.out); rintro e w18 ⟨rfl, hb⟩; refine ⟨_, rfl, ?_⟩; replace BK186 := kb_ BK186 hb; replace BK187 := kb_ BK187 hb; replace HB := sb_ HB hb; (try clear hb); (try clear hb2); (try clear hk); (try clear hi); have hcz19_0 := cz_ BK186 0 (.slice A0_0 l0_0.length c0_0); have hcz19_1 := cz_ BK186 1 (.int .i64 a0_1); have hfz19_0 := blk_frozen BK186.out 0; have hfz19_1 := blk_frozen BK186.out 1; have p190 : 0 ≤ (t188 : Int) := ct_; have q190 : t188 < (l0_0.length : Int) := ct_; obtain ⟨ad190, e190, hx190_0, hx190_1⟩ := at_T46 HR0_0.out t188 p190 q190; cases e190; replace hx190_0 := pw_cell_below HB.out hx190_0; replace hx190_1 := pw_cell_below HB.out hx190_1; replace p190 := eq_true p190; replace q190 := eq_true q190) | ((with_reducible refine gate_callee (f := 25) rfl ?_); refine gl_ 29 Tryd.func25 #[.int .i64 a2, .int .i64 1, .int .i64 (wrap64 ((((rd_T46 l0_0 t188).f1).size : Int) / 32))] ?_; (with_reducible refine (segment_within.calls a2 1 (wrap64 ((((rd_T46 l0_0 t188).f1).size : Int) / 32)) true _ A8.out).mono ?_); rintro e w' ⟨rfl, ⟨nd, rfl⟩⟩; refine ⟨_, rfl, ?_⟩; (try (rw [drewN_self w18]; generalize hq_ : World.drewN w18 _ = w18; have n0_ : Aside0 (w18.heap[gb186]? = some (.cells #[.slice (some ad190) l0_0.length c0_0, .int .i64 a0_1] 24 (0, 0))) := ⟨by rw [← hq_]; exact (pk_ BK186)⟩; have n1_ : Aside0 (w18.heap[gb187]? = some (.cells #[.slice none 0 0, .int .i64 0] 24 (0, 0))) := ⟨by rw [← hq_]; exact (pk_ BK187)⟩; have n2_ : Aside0 (Below w.heap.size w w18) := ⟨by rw [← hq_]; exact (pb_ HB)⟩; clear BK186 BK187 HB hq_; have BK186 := n0_; have BK187 := n1_; have HB := n2_; clear n0_ n1_ n2_))))
       replace BK186 := Aside0.mk (blk_drew BK186.out)
       replace BK187 := Aside0.mk (blk_drew BK187.out)
       replace HB := Aside0.mk (below_drew1 HB.out)
       have p192 : 0 ≤ (t188 : Int) := ct_
       have q192 : t188 < (l0_0.length : Int) := ct_
       obtain ⟨ad192, e192, hx192_0, hx192_1⟩ := at_T46 HR0_0.out t188 p192 q192
       have hw192_1 := hx192_1
       have hw192_0 := hx192_0
       obtain rfl : ad190 = ad192 := (by injection e192)
       replace hx192_0 := pw_cell_below HB.out hx192_0
       replace hx192_1 := pw_cell_below HB.out hx192_1
       replace p192 := eq_true p192
       replace q192 := eq_true q192
       refine start_ (n := 14) (S := fun w' => w'.cell? ⟨gb186, 0, none⟩ = some (.slice (some ad190) l0_0.length c0_0) ∧ w'.cell? ⟨gb186, 1, none⟩ = some (.int .i64 a0_1) ∧ w'.cell? (ad190.add ((t188).toNat * 2)) = some (.int .i64 ((rd_T46 l0_0 t188).f0)) ∧ w'.cell? ⟨(ad190.add ((t188).toNat * 2)).block, (ad190.add ((t188).toNat * 2)).off + 1, none⟩ = some (.string ((rd_T46 l0_0 t188).f1))) (ds := []) #[false, false, false, false, false, false, false, false, false, false, false, false, false, false] (by kernel_rfl) rfl rfl ⟨cy_ BK186 0, cy_ BK186 1, (pw_cell_below HB.out hw192_0), (pw_cell_below HB.out hw192_1)⟩ (fun hHeld => ?_); refine with_tabW segment_Truncated.tab6 segment_Truncated.bits6 (fun HT_ HW_ => ?_)
       generalize w18.drew = w20 at BK186 BK187 HB hx192_0 hx192_1 hHeld ⊢
       refine pu_ 1 33 HT_ ?_
       refine pu_ 2 34 HT_ ?_
       refine pu_ 4 36 HT_ ?_
       refine pu_ 8 40 HT_ ?_
       refine pu_ 9 41 HT_ ?_
       refine tk_ 0 32 HT_ HW_ hHeld rfl (Or.inl ⟨by rfl, by rintro w' ⟨s0, s1, s2, s3⟩; go_simp; with_reducible rfl⟩) ?_
       refine tk_ 3 35 HT_ HW_ hHeld rfl (Or.inl ⟨by rfl, by rintro w' ⟨s0, s1, s2, s3⟩; go_simp; with_reducible rfl⟩) ?_
       refine pu_ 5 37 HT_ ?_
       refine pu_ 6 38 HT_ ?_
       refine tk_ 7 39 HT_ HW_ hHeld rfl (Or.inl ⟨by rfl, by rintro w' ⟨s0, s1, s2, s3⟩; go_simp; with_reducible rfl⟩) ?_
       refine pu_ 10 42 HT_ ?_
       refine one_ (i := 11) (N := some 43) #[true, true, true, true, true, true, true, true, true, true, true, true, false, false] rfl rfl (one_of HT_.out (by kernel_rfl)) (by decide) (fun K hK => ?_)
       refine goes_ Tryd.func57 (by kernel_rfl) rfl #[.agg #[.slice (some ad190) l0_0.length c0_0, .int .i64 a0_1], .int .i64 t188, .string (((rd_T46 l0_0 t188).f1).extract 0 ((ji10) : Int).toNat)] (by rfl) rfl rfl (by (try simp only [List.map_toArray, List.map_cons, List.map_nil]); first | done | (simp only [hji10]; rfl) | rfl | (simp only [List.length_drop, List.length_take]; rfl)) ?_
       with_reducible refine (segment_with.calls _ _ l0_0 a0_1 t188 (((rd_T46 l0_0 t188).f1).extract 0 ((ji10) : Int).toNat) t193 t196 _ ?side1 ?side2 A13.out).mono ?_
       (case side1 => exact pc_ (Kd.C_below HR0_0.out HB.out))
       (case side2 => exact HC0_0.out)
       rintro e w21 ⟨v194, rfl, ho0, hb⟩
       refine ⟨_, rfl, ?_⟩
       have HO195 := Aside0.mk (Kd.R_lower ho0 (below_size (pb_ HB)))
       replace BK186 := kb_ BK186 hb
       replace BK187 := kb_ BK187 hb
       replace HB := sb_ HB hb
       (try clear hb)
       (try clear hb2)
       (try clear hk)
       (try clear hi)
       (try clear ho0)
       obtain ⟨Ao22, co22, eo22⟩ := Kd.R_slice HO195.out
       (first | subst eo22 | (injection eo22 with f1_ f2_ f3_; have f4_ := f1_.symm; have f5_ := f3_.symm; clear f1_ f2_ f3_; subst f4_; subst f5_))
       refine hK.out _ _ ⟨cy_ BK186 0, cy_ BK186 1, (pw_cell_below HB.out hw192_0), (pw_cell_below HB.out hw192_1)⟩ (fun hHeld => ?_)
       clear hK K
       refine nn_ 43 ?_
       refine one_ (i := 12) (N := none) #[true, true, true, true, true, true, true, true, true, true, true, true, true, false] rfl rfl (one_of HT_.out (by kernel_rfl)) (by decide) (fun K hK => ?_)
       have hs23 : w21.cell? ⟨gb187, 0, none⟩ = some (.slice none 0 0) := (blk_cell BK187.out 0).trans rfl
       have hfs23 := blk_frozen BK187.out 0
       have hns23_0 := NB186_187.out
       have hms23_0 := NB187_186.out
       have hs24 : w21.cell? ⟨gb187, 1, none⟩ = some (.int .i64 0) := (blk_cell BK187.out 1).trans rfl
       have hfs24 := blk_frozen BK187.out 1
       have hns24_0 := NB186_187.out
       have hms24_0 := NB187_186.out
       refine skip_ (w1 := ?_) (by rfl) rfl ?_ ?_
       rotate_left
       ·
        go_simp
        rfl
       refine hK.out _ _ ⟨((cell_far (p := ⟨gb187, _, none⟩) NB186_187.out _).trans (((cell_far (p := ⟨gb187, _, none⟩) NB186_187.out _).trans (hHeld.1)))), ((cell_far (p := ⟨gb187, _, none⟩) NB186_187.out _).trans (((cell_far (p := ⟨gb187, _, none⟩) NB186_187.out _).trans (hHeld.2.1)))), ((cell_far (p := ⟨gb187, _, none⟩) (nf_ hw192_0 GW187) _).trans (((cell_far (p := ⟨gb187, _, none⟩) (nf_ hw192_0 GW187) _).trans (hHeld.2.2.1)))), ((cell_far (p := ⟨gb187, _, none⟩) (nf_ hw192_1 GW187) _).trans (((cell_far (p := ⟨gb187, _, none⟩) (nf_ hw192_1 GW187) _).trans (hHeld.2.2.2))))⟩ (fun hHeld => ?_)
       clear hK K
       refine pu_ 13 7 HT_ ?_
       refine done_ (done_of HT_.out (by kernel_rfl)) ?_
       try go_wp2
       refine bodyPost_ret (results_ct rfl _ _ gb187 24 #[.slice Ao22 t193.length co22, .int .i64 t196] (0, 0) _ rfl (bq_ BK187) Tryd.underlying24 rfl (by kernel_rfl)) rfl ?_
       exact ⟨_, by first | rfl | (simp [errW_none, errW_some] <;> rfl) | (simp only [← hji10]; first | rfl | (simp [errW_none, errW_some] <;> rfl)) | (simp [*, errW_none, errW_some] <;> rfl), by (with_reducible repeat (first | apply Kd.R_alloc | apply Kd.R_drewN | apply Kd.R_drew)); exact Kd.R_mono (Kd.R_far (p := ⟨gb187, 1, none⟩) (Kd.R_far (p := ⟨gb187, 0, none⟩) (Kd.R_types HO195.out BK187.out (by decide)) (fun _ hk => hk.2) (.slice Ao22 t193.length co22)) (fun _ hk => hk.2) (.int .i64 t196)) (fun _ hk => trivial), pb_ HB⟩
      rw [if_neg c12] at H
      exact absurd H (by simp)
     rw [if_neg c11] at H
     exact absurd H (by simp)
    replace c9 := Bool.eq_false_iff.mpr c9
    subst c9
    have H1 : (some (([] : List (S46)), 0, 3)) = some (r1, r2, r3) := by rw [if_neg (show ¬ (false = true) by decide)] at H; exact H
    clear H
    have H := H1
    clear H1
    simp only [Option.some.injEq, Prod.mk.injEq] at H
    obtain ⟨rfl, rfl, rfl⟩ := H
    go_enter Tryd.func43, Tryd.ntmps43
    go_wp2_with (first | ((with_reducible refine gate_dst (N := 3) rfl ?_); refine bx_ 3 #[.slice A0_0 l0_0.length c0_0, .int .i64 a0_1] 24 ?_; intro gb186 hg w25 hbox hb; have BK186 := Aside0.mk (hbox); have GW186 := gw_ hg HB; have GE186 := gw_ hg HB; replace HB := sb_ HB hb; clear hb hbox hg) | ((with_reducible refine gate_dst (N := 6) rfl ?_); refine bx_ 6 #[.slice none 0 0, .int .i64 0] 24 ?_; intro gb187 hg w26 hbox hb; have BK187 := Aside0.mk (hbox); have GW187 := gw_ hg HB; have GE187 := gw_ hg HB; replace HB := sb_ HB hb; have NB186_187 := nl_ hg BK186; have NB187_186 := ng_ hg BK186; replace BK186 := kb_ BK186 hb; clear hb hbox hg; have hnb27 := NB186_187.out; have hnc27 := NB187_186.out; have hcz28_0 := cz_ BK186 0 (.slice A0_0 l0_0.length c0_0); have hcz28_1 := cz_ BK186 1 (.int .i64 a0_1); have hfz28_0 := blk_frozen BK186.out 0; have hfz28_1 := blk_frozen BK186.out 1) | ((with_reducible refine gate_callee (f := 16) rfl ?_); refine gl_ 13 Tryd.func16 #[.agg #[.slice A0_0 l0_0.length c0_0, .int .i64 a0_1], .int .i64 a1] ?_; (with_reducible refine (segment_find.calls k _ _ l0_0 a0_1 a1 t188 t189 _ ?side1 ?side2 A4.out).mono ?_); (case side1 => exact pc_ (Kd.C_below HR0_0.out HB.out)); (case side2 => exact HC0_0.out); rintro e w29 ⟨rfl, hb⟩; refine ⟨_, rfl, ?_⟩; replace BK186 := kb_ BK186 hb; replace BK187 := kb_ BK187 hb; replace HB := sb_ HB hb; (try clear hb); (try clear hb2); (try clear hk); (try clear hi); have hcz30_0 := cz_ BK186 0 (.slice A0_0 l0_0.length c0_0); have hcz30_1 := cz_ BK186 1 (.int .i64 a0_1); have hfz30_0 := blk_frozen BK186.out 0; have hfz30_1 := blk_frozen BK186.out 1; have p190 : 0 ≤ (t188 : Int) := ct_; have q190 : t188 < (l0_0.length : Int) := ct_; obtain ⟨ad190, e190, hx190_0, hx190_1⟩ := at_T46 HR0_0.out t188 p190 q190; cases e190; replace hx190_0 := pw_cell_below HB.out hx190_0; replace hx190_1 := pw_cell_below HB.out hx190_1; replace p190 := eq_true p190; replace q190 := eq_true q190) | ((with_reducible refine gate_callee (f := 25) rfl ?_); refine gl_ 29 Tryd.func25 #[.int .i64 a2, .int .i64 1, .int .i64 (wrap64 ((((rd_T46 l0_0 t188).f1).size : Int) / 32))] ?_; (with_reducible refine (segment_within.calls a2 1 (wrap64 ((((rd_T46 l0_0 t188).f1).size : Int) / 32)) false _ A8.out).mono ?_); rintro e w' ⟨rfl, ⟨nd, rfl⟩⟩; refine ⟨_, rfl, ?_⟩; (try (rw [drewN_self w29]; generalize hq_ : World.drewN w29 _ = w29; have n0_ : Aside0 (w29.heap[gb186]? = some (.cells #[.slice (some ad190) l0_0.length c0_0, .int .i64 a0_1] 24 (0, 0))) := ⟨by rw [← hq_]; exact (pk_ BK186)⟩; have n1_ : Aside0 (w29.heap[gb187]? = some (.cells #[.slice none 0 0, .int .i64 0] 24 (0, 0))) := ⟨by rw [← hq_]; exact (pk_ BK187)⟩; have n2_ : Aside0 (Below w.heap.size w w29) := ⟨by rw [← hq_]; exact (pb_ HB)⟩; clear BK186 BK187 HB hq_; have BK186 := n0_; have BK187 := n1_; have HB := n2_; clear n0_ n1_ n2_)); have hcz31_0 := cz_ BK187 0 (.slice none 0 0); have hcz31_1 := cz_ BK187 1 (.int .i64 0); have hfz31_0 := blk_frozen BK187.out 0; have hfz31_1 := blk_frozen BK187.out 1))
    refine bodyPost_ret (results_ct rfl _ _ gb187 24 #[.slice none 0 0, .int .i64 0] (0, 0) _ rfl (bq_ BK187) Tryd.underlying24 rfl (by kernel_rfl)) rfl ?_
    exact ⟨_, er_, by first | exact Kd.R_nil _ _ _ _ _ | exact Kd.N_nil _ _ _ _ _ | exact Kd.V_nil _ _ _ _ _ | exact Kd.Q_nil _ _ _ _ _ | exact Kd.S_nil _ _ _ _ _, pb_ HB⟩
   rw [if_neg c7] at H
   exact absurd H (by simp)
  rw [if_neg c6] at H
  exact absurd H (by simp)
 rw [if_neg c5] at H
 have c5b0 : (t189 == 0) = false := beq_eq_false_iff_ne.mpr c5
 have c5b1 : (t189 != 0) = true := bne_iff_ne.mpr c5
 simp only [Option.some.injEq, Prod.mk.injEq] at H
 obtain ⟨rfl, rfl, rfl⟩ := H
 go_enter Tryd.func43, Tryd.ntmps43
 go_wp2_with (first | ((with_reducible refine gate_dst (N := 3) rfl ?_); refine bx_ 3 #[.slice A0_0 l0_0.length c0_0, .int .i64 a0_1] 24 ?_; intro gb186 hg w32 hbox hb; have BK186 := Aside0.mk (hbox); have GW186 := gw_ hg HB; have GE186 := gw_ hg HB; replace HB := sb_ HB hb; clear hb hbox hg) | ((with_reducible refine gate_dst (N := 6) rfl ?_); refine bx_ 6 #[.slice none 0 0, .int .i64 0] 24 ?_; intro gb187 hg w33 hbox hb; have BK187 := Aside0.mk (hbox); have GW187 := gw_ hg HB; have GE187 := gw_ hg HB; replace HB := sb_ HB hb; have NB186_187 := nl_ hg BK186; have NB187_186 := ng_ hg BK186; replace BK186 := kb_ BK186 hb; clear hb hbox hg; have hnb34 := NB186_187.out; have hnc34 := NB187_186.out; have hcz35_0 := cz_ BK186 0 (.slice A0_0 l0_0.length c0_0); have hcz35_1 := cz_ BK186 1 (.int .i64 a0_1); have hfz35_0 := blk_frozen BK186.out 0; have hfz35_1 := blk_frozen BK186.out 1) | ((with_reducible refine gate_callee (f := 16) rfl ?_); refine gl_ 13 Tryd.func16 #[.agg #[.slice A0_0 l0_0.length c0_0, .int .i64 a0_1], .int .i64 a1] ?_; (with_reducible refine (segment_find.calls k _ _ l0_0 a0_1 a1 t188 t189 _ ?side1 ?side2 A4.out).mono ?_); (case side1 => exact pc_ (Kd.C_below HR0_0.out HB.out)); (case side2 => exact HC0_0.out); rintro e w36 ⟨rfl, hb⟩; refine ⟨_, rfl, ?_⟩; replace BK186 := kb_ BK186 hb; replace BK187 := kb_ BK187 hb; replace HB := sb_ HB hb; (try clear hb); (try clear hb2); (try clear hk); (try clear hi); have hcz37_0 := cz_ BK187 0 (.slice none 0 0); have hcz37_1 := cz_ BK187 1 (.int .i64 0); have hfz37_0 := blk_frozen BK187.out 0; have hfz37_1 := blk_frozen BK187.out 1))
 refine bodyPost_ret (results_ct rfl _ _ gb187 24 #[.slice none 0 0, .int .i64 0] (0, 0) _ rfl (bq_ BK187) Tryd.underlying24 rfl (by kernel_rfl)) rfl ?_
 exact ⟨_, er_, by first | exact Kd.R_nil _ _ _ _ _ | exact Kd.N_nil _ _ _ _ _ | exact Kd.V_nil _ _ _ _ _ | exact Kd.Q_nil _ _ _ _ _ | exact Kd.S_nil _ _ _ _ _, pb_ HB⟩
def segment_bytesAt.f (k : Nat) (l0_0 : List (S46)) (a0_1 : Int) (a1_0 : Int) (a1_1 : Int) (a2 : Int) : Option (Int × Int) := (segment_find.f k l0_0 a0_1 a1_0).bind fun bt199 => (if bt199.2 = 0 then (if 0 ≤ bt199.1 then (if bt199.1 < (l0_0.length : Int) then ((segment_within.f a1_1 0 (((rd_T46 l0_0 bt199.1).f1).size : Int)).bind fun t202 => (if t202 = true then ((segment_within.f a2 0 (wrap64 ((((rd_T46 l0_0 bt199.1).f1).size : Int) - a1_1))).bind fun t203 => (if t203 = true then (some (bt199.1, 0)) else (some (0, 3)))) else (some (0, 3)))) else (none)) else (none)) else (some (0, bt199.2)))
set_option maxHeartbeats 8000000 in
set_option maxRecDepth 100000 in
theorem segment_bytesAt.calls (k : Nat) (A0_0 : Option Addr) (c0_0 : Nat) (l0_0 : List (S46)) (a0_1 : Int) (a1_0 : Int) (a1_1 : Int) (a2 : Int) (r1 : Int) (r2 : Int) (w : World) (hr0_0 : Kd.C k46 w A0_0 l0_0.length l0_0) (hc0_0 : l0_0.length ≤ c0_0) (h : segment_bytesAt.f k l0_0 a0_1 a1_0 a1_1 a2 = some (r1, r2)) :
  Calls Tryd.prog 58 #[.agg #[.slice A0_0 l0_0.length c0_0, .int .i64 a0_1], .agg #[.int .i64 a1_0, .int .i64 a1_1], .int .i64 a2] w fun e w' => e = .returned (.tuple #[.int .i64 r1, .int .i64 r2]) ∧ Below w.heap.size w w' := by
 have hu24 := Tryd.underlying24
 have hu79 := Tryd.underlying79
 have HR0_0 := Aside0.mk hr0_0
 have HC0_0 := Aside0.mk hc0_0
 clear hr0_0 hc0_0
 have HB := Aside0.mk (Below.refl w.heap.size w)
 have H : ((segment_find.f k l0_0 a0_1 a1_0).bind fun bt199 => (if bt199.2 = 0 then (if 0 ≤ bt199.1 then (if bt199.1 < (l0_0.length : Int) then ((segment_within.f a1_1 0 (((rd_T46 l0_0 bt199.1).f1).size : Int)).bind fun t202 => (if t202 = true then ((segment_within.f a2 0 (wrap64 ((((rd_T46 l0_0 bt199.1).f1).size : Int) - a1_1))).bind fun t203 => (if t203 = true then (some (bt199.1, 0)) else (some (0, 3)))) else (some (0, 3)))) else (none)) else (none)) else (some (0, bt199.2)))) = some (r1, r2) := h
 clear h
 replace H := Option.bind_eq_some_iff.mp H
 obtain ⟨⟨t199, t200⟩, A40, H⟩ := H
 replace H : (if t200 = 0 then (if 0 ≤ t199 then (if t199 < (l0_0.length : Int) then ((segment_within.f a1_1 0 (((rd_T46 l0_0 t199).f1).size : Int)).bind fun t202 => (if t202 = true then ((segment_within.f a2 0 (wrap64 ((((rd_T46 l0_0 t199).f1).size : Int) - a1_1))).bind fun t203 => (if t203 = true then (some (t199, 0)) else (some (0, 3)))) else (some (0, 3)))) else (none)) else (none)) else (some (0, t200))) = some (r1, r2) := H
 have A4 := Aside0.mk A40
 clear A40
 by_cases c5 : t200 = 0
 ·
  rw [if_pos c5] at H
  have c5b0 : (t200 == 0) = true := beq_iff_eq.mpr c5
  have c5b1 : (t200 != 0) = false := bne_eq_false_iff_eq.mpr c5
  clear c5
  by_cases c6 : 0 ≤ t199
  ·
   rw [if_pos c6] at H
   have c6b0 : decide (0 ≤ t199) = true := decide_eq_true c6
   clear c6
   by_cases c7 : t199 < (l0_0.length : Int)
   ·
    rw [if_pos c7] at H
    have c7b0 : decide (t199 < (l0_0.length : Int)) = true := decide_eq_true c7
    clear c7
    replace H := Option.bind_eq_some_iff.mp H
    obtain ⟨t202, A80, H⟩ := H
    replace H : (if t202 = true then ((segment_within.f a2 0 (wrap64 ((((rd_T46 l0_0 t199).f1).size : Int) - a1_1))).bind fun t203 => (if t203 = true then (some (t199, 0)) else (some (0, 3)))) else (some (0, 3))) = some (r1, r2) := H
    have A8 := Aside0.mk A80
    clear A80
    by_cases c9 : t202 = true
    ·
     subst c9
     have H1 : ((segment_within.f a2 0 (wrap64 ((((rd_T46 l0_0 t199).f1).size : Int) - a1_1))).bind fun t203 => (if t203 = true then (some (t199, 0)) else (some (0, 3)))) = some (r1, r2) := by rw [if_pos rfl] at H; exact H
     clear H
     have H := H1
     clear H1
     replace H := Option.bind_eq_some_iff.mp H
     obtain ⟨t203, A100, H⟩ := H
     replace H : (if t203 = true then (some (t199, 0)) else (some (0, 3))) = some (r1, r2) := H
     have A10 := Aside0.mk A100
     clear A100
     by_cases c11 : t203 = true
     ·
      subst c11
      have H1 : (some (t199, 0)) = some (r1, r2) := by rw [if_pos rfl] at H; exact H
      clear H
      have H := H1
      clear H1
      simp only [Option.some.injEq, Prod.mk.injEq] at H
      obtain ⟨rfl, rfl⟩ := H
      go_enter Tryd.func58, Tryd.ntmps58
      go_wp2_with (first | ((with_reducible refine gate_dst (N := 3) rfl ?_); refine bx_ 3 #[.slice A0_0 l0_0.length c0_0, .int .i64 a0_1] 24 ?_; intro gb197 hg w12 hbox hb; have BK197 := Aside0.mk (hbox); have GW197 := gw_ hg HB; have GE197 := gw_ hg HB; replace HB := sb_ HB hb; clear hb hbox hg) | ((with_reducible refine gate_dst (N := 4) rfl ?_); refine bx_ 4 #[.int .i64 a1_0, .int .i64 a1_1] 79 ?_; intro gb198 hg w13 hbox hb; have BK198 := Aside0.mk (hbox); have GW198 := gw_ hg HB; have GE198 := gw_ hg HB; replace HB := sb_ HB hb; have NB197_198 := nl_ hg BK197; have NB198_197 := ng_ hg BK197; replace BK197 := kb_ BK197 hb; clear hb hbox hg; have hnb14 := NB197_198.out; have hnc14 := NB198_197.out; have hcz15_0 := cz_ BK197 0 (.slice A0_0 l0_0.length c0_0); have hcz15_1 := cz_ BK197 1 (.int .i64 a0_1); have hfz15_0 := blk_frozen BK197.out 0; have hfz15_1 := blk_frozen BK197.out 1; have hcz16_0 := cz_ BK198 0 (.int .i64 a1_0); have hcz16_1 := cz_ BK198 1 (.int .i64 a1_1); have hfz16_0 := blk_frozen BK198.out 0; have hfz16_1 := blk_frozen BK198.out 1) | ((with_reducible refine gate_callee (f := 16) rfl ?_); refine gl_ 15 Tryd.func16 #[.agg #[.slice A0_0 l0_0.length c0_0, .int .i64 a0_1], .int .i64 a1_0] ?_; (with_reducible refine (segment_find.calls k _ _ l0_0 a0_1 a1_0 t199 t200 _ ?side1 ?side2 A4.out).mono ?_); (case side1 => exact pc_ (Kd.C_below HR0_0.out HB.out)); (case side2 => exact HC0_0.out); rintro e w17 ⟨rfl, hb⟩; refine ⟨_, rfl, ?_⟩; replace BK197 := kb_ BK197 hb; replace BK198 := kb_ BK198 hb; replace HB := sb_ HB hb; (try clear hb); (try clear hb2); (try clear hk); (try clear hi); have hcz18_0 := cz_ BK197 0 (.slice A0_0 l0_0.length c0_0); have hcz18_1 := cz_ BK197 1 (.int .i64 a0_1); have hfz18_0 := blk_frozen BK197.out 0; have hfz18_1 := blk_frozen BK197.out 1; have p201 : 0 ≤ (t199 : Int) := ct_; have q201 : t199 < (l0_0.length : Int) := ct_; obtain ⟨ad201, e201, hx201_0, hx201_1⟩ := at_T46 HR0_0.out t199 p201 q201; cases e201; replace hx201_0 := pw_cell_below HB.out hx201_0; replace hx201_1 := pw_cell_below HB.out hx201_1; replace p201 := eq_true p201; replace q201 := eq_true q201; have hcz19_0 := cz_ BK198 0 (.int .i64 a1_0); have hcz19_1 := cz_ BK198 1 (.int .i64 a1_1); have hfz19_0 := blk_frozen BK198.out 0; have hfz19_1 := blk_frozen BK198.out 1) | ((with_reducible refine gate_callee (f := 25) rfl ?_); refine gl_ 31 Tryd.func25 #[.int .i64 a1_1, .int .i64 0, .int .i64 (((rd_T46 l0_0 t199).f1).size : Int)] ?_; (with_reducible refine (segment_within.calls a1_1 0 (((rd_T46 l0_0 t199).f1).size : Int) true _ A8.out).mono ?_); rintro e w' ⟨rfl, ⟨nd, rfl⟩⟩; refine ⟨_, rfl, ?_⟩) | (go_at_call 25; (with_reducible refine (segment_within.calls a2 0 (wrap64 ((((rd_T46 l0_0 t199).f1).size : Int) - a1_1)) true _ A10.out).mono ?_); rintro e w' ⟨rfl, ⟨nd, rfl⟩⟩))
      go_ret2
      exact ⟨er_, pb_ HB⟩
     replace c11 := Bool.eq_false_iff.mpr c11
     subst c11
     have H1 : (some (0, 3)) = some (r1, r2) := by rw [if_neg (show ¬ (false = true) by decide)] at H; exact H
     clear H
     have H := H1
     clear H1
     simp only [Option.some.injEq, Prod.mk.injEq] at H
     obtain ⟨rfl, rfl⟩ := H
     go_enter Tryd.func58, Tryd.ntmps58
     go_wp2_with (first | ((with_reducible refine gate_dst (N := 3) rfl ?_); refine bx_ 3 #[.slice A0_0 l0_0.length c0_0, .int .i64 a0_1] 24 ?_; intro gb197 hg w20 hbox hb; have BK197 := Aside0.mk (hbox); have GW197 := gw_ hg HB; have GE197 := gw_ hg HB; replace HB := sb_ HB hb; clear hb hbox hg) | ((with_reducible refine gate_dst (N := 4) rfl ?_); refine bx_ 4 #[.int .i64 a1_0, .int .i64 a1_1] 79 ?_; intro gb198 hg w21 hbox hb; have BK198 := Aside0.mk (hbox); have GW198 := gw_ hg HB; have GE198 := gw_ hg HB; replace HB := sb_ HB hb; have NB197_198 := nl_ hg BK197; have NB198_197 := ng_ hg BK197; replace BK197 := kb_ BK197 hb; clear hb hbox hg; have hnb22 := NB197_198.out; have hnc22 := NB198_197.out; have hcz23_0 := cz_ BK197 0 (.slice A0_0 l0_0.length c0_0); have hcz23_1 := cz_ BK197 1 (.int .i64 a0_1); have hfz23_0 := blk_frozen BK197.out 0; have hfz23_1 := blk_frozen BK197.out 1; have hcz24_0 := cz_ BK198 0 (.int .i64 a1_0); have hcz24_1 := cz_ BK198 1 (.int .i64 a1_1); have hfz24_0 := blk_frozen BK198.out 0; have hfz24_1 := blk_frozen BK198.out 1) | ((with_reducible refine gate_callee (f := 16) rfl ?_); refine gl_ 15 Tryd.func16 #[.agg #[.slice A0_0 l0_0.length c0_0, .int .i64 a0_1], .int .i64 a1_0] ?_; (with_reducible refine (segment_find.calls k _ _ l0_0 a0_1 a1_0 t199 t200 _ ?side1 ?side2 A4.out).mono ?_); (case side1 => exact pc_ (Kd.C_below HR0_0.out HB.out)); (case side2 => exact HC0_0.out); rintro e w25 ⟨rfl, hb⟩; refine ⟨_, rfl, ?_⟩; replace BK197 := kb_ BK197 hb; replace BK198 := kb_ BK198 hb; replace HB := sb_ HB hb; (try clear hb); (try clear hb2); (try clear hk); (try clear hi); have hcz26_0 := cz_ BK197 0 (.slice A0_0 l0_0.length c0_0); have hcz26_1 := cz_ BK197 1 (.int .i64 a0_1); have hfz26_0 := blk_frozen BK197.out 0; have hfz26_1 := blk_frozen BK197.out 1; have p201 : 0 ≤ (t199 : Int) := ct_; have q201 : t199 < (l0_0.length : Int) := ct_; obtain ⟨ad201, e201, hx201_0, hx201_1⟩ := at_T46 HR0_0.out t199 p201 q201; cases e201; replace hx201_0 := pw_cell_below HB.out hx201_0; replace hx201_1 := pw_cell_below HB.out hx201_1; replace p201 := eq_true p201; replace q201 := eq_true q201; have hcz27_0 := cz_ BK198 0 (.int .i64 a1_0); have hcz27_1 := cz_ BK198 1 (.int .i64 a1_1); have hfz27_0 := blk_frozen BK198.out 0; have hfz27_1 := blk_frozen BK198.out 1) | ((with_reducible refine gate_callee (f := 25) rfl ?_); refine gl_ 31 Tryd.func25 #[.int .i64 a1_1, .int .i64 0, .int .i64 (((rd_T46 l0_0 t199).f1).size : Int)] ?_; (with_reducible refine (segment_within.calls a1_1 0 (((rd_T46 l0_0 t199).f1).size : Int) true _ A8.out).mono ?_); rintro e w' ⟨rfl, ⟨nd, rfl⟩⟩; refine ⟨_, rfl, ?_⟩) | (go_at_call 25; (with_reducible refine (segment_within.calls a2 0 (wrap64 ((((rd_T46 l0_0 t199).f1).size : Int) - a1_1)) false _ A10.out).mono ?_); rintro e w' ⟨rfl, ⟨nd, rfl⟩⟩))
     go_ret2
     exact ⟨er_, pb_ HB⟩
    replace c9 := Bool.eq_false_iff.mpr c9
    subst c9
    have H1 : (some (0, 3)) = some (r1, r2) := by rw [if_neg (show ¬ (false = true) by decide)] at H; exact H
    clear H
    have H := H1
    clear H1
    simp only [Option.some.injEq, Prod.mk.injEq] at H
    obtain ⟨rfl, rfl⟩ := H
    go_enter Tryd.func58, Tryd.ntmps58
    go_wp2_with (first | ((with_reducible refine gate_dst (N := 3) rfl ?_); refine bx_ 3 #[.slice A0_0 l0_0.length c0_0, .int .i64 a0_1] 24 ?_; intro gb197 hg w28 hbox hb; have BK197 := Aside0.mk (hbox); have GW197 := gw_ hg HB; have GE197 := gw_ hg HB; replace HB := sb_ HB hb; clear hb hbox hg) | ((with_reducible refine gate_dst (N := 4) rfl ?_); refine bx_ 4 #[.int .i64 a1_0, .int .i64 a1_1] 79 ?_; intro gb198 hg w29 hbox hb; have BK198 := Aside0.mk (hbox); have GW198 := gw_ hg HB; have GE198 := gw_ hg HB; replace HB := sb_ HB hb; have NB197_198 := nl_ hg BK197; have NB198_197 := ng_ hg BK197; replace BK197 := kb_ BK197 hb; clear hb hbox hg; have hnb30 := NB197_198.out; have hnc30 := NB198_197.out; have hcz31_0 := cz_ BK197 0 (.slice A0_0 l0_0.length c0_0); have hcz31_1 := cz_ BK197 1 (.int .i64 a0_1); have hfz31_0 := blk_frozen BK197.out 0; have hfz31_1 := blk_frozen BK197.out 1; have hcz32_0 := cz_ BK198 0 (.int .i64 a1_0); have hcz32_1 := cz_ BK198 1 (.int .i64 a1_1); have hfz32_0 := blk_frozen BK198.out 0; have hfz32_1 := blk_frozen BK198.out 1) | ((with_reducible refine gate_callee (f := 16) rfl ?_); refine gl_ 15 Tryd.func16 #[.agg #[.slice A0_0 l0_0.length c0_0, .int .i64 a0_1], .int .i64 a1_0] ?_; (with_reducible refine (segment_find.calls k _ _ l0_0 a0_1 a1_0 t199 t200 _ ?side1 ?side2 A4.out).mono ?_); (case side1 => exact pc_ (Kd.C_below HR0_0.out HB.out)); (case side2 => exact HC0_0.out); rintro e w33 ⟨rfl, hb⟩; refine ⟨_, rfl, ?_⟩; replace BK197 := kb_ BK197 hb; replace BK198 := kb_ BK198 hb; replace HB := sb_ HB hb; (try clear hb); (try clear hb2); (try clear hk); (try clear hi); have hcz34_0 := cz_ BK197 0 (.slice A0_0 l0_0.length c0_0); have hcz34_1 := cz_ BK197 1 (.int .i64 a0_1); have hfz34_0 := blk_frozen BK197.out 0; have hfz34_1 := blk_frozen BK197.out 1; have p201 : 0 ≤ (t199 : Int) := ct_; have q201 : t199 < (l0_0.length : Int) := ct_; obtain ⟨ad201, e201, hx201_0, hx201_1⟩ := at_T46 HR0_0.out t199 p201 q201; cases e201; replace hx201_0 := pw_cell_below HB.out hx201_0; replace hx201_1 := pw_cell_below HB.out hx201_1; replace p201 := eq_true p201; replace q201 := eq_true q201; have hcz35_0 := cz_ BK198 0 (.int .i64 a1_0); have hcz35_1 := cz_ BK198 1 (.int .i64 a1_1); have hfz35_0 := blk_frozen BK198.out 0; have hfz35_1 := blk_frozen BK198.out 1) | ((with_reducible refine gate_callee (f := 25) rfl ?_); refine gl_ 31 Tryd.func25 #[.int .i64 a1_1, .int .i64 0, .int .i64 (((rd_T46 l0_0 t199).f1).size : Int)] ?_; (with_reducible refine (segment_within.calls a1_1 0 (((rd_T46 l0_0 t199).f1).size : Int) false _ A8.out).mono ?_); rintro e w' ⟨rfl, ⟨nd, rfl⟩⟩; refine ⟨_, rfl, ?_⟩))
    go_ret2
    exact ⟨er_, pb_ HB⟩
   rw [if_neg c7] at H
   exact absurd H (by simp)
  rw [if_neg c6] at H
  exact absurd H (by simp)
 rw [if_neg c5] at H
 have c5b0 : (t200 == 0) = false := beq_eq_false_iff_ne.mpr c5
 have c5b1 : (t200 != 0) = true := bne_iff_ne.mpr c5
 simp only [Option.some.injEq, Prod.mk.injEq] at H
 obtain ⟨rfl, rfl⟩ := H
 go_enter Tryd.func58, Tryd.ntmps58
 go_wp2_with (first | ((with_reducible refine gate_dst (N := 3) rfl ?_); refine bx_ 3 #[.slice A0_0 l0_0.length c0_0, .int .i64 a0_1] 24 ?_; intro gb197 hg w36 hbox hb; have BK197 := Aside0.mk (hbox); have GW197 := gw_ hg HB; have GE197 := gw_ hg HB; replace HB := sb_ HB hb; clear hb hbox hg) | ((with_reducible refine gate_dst (N := 4) rfl ?_); refine bx_ 4 #[.int .i64 a1_0, .int .i64 a1_1] 79 ?_; intro gb198 hg w37 hbox hb; have BK198 := Aside0.mk (hbox); have GW198 := gw_ hg HB; have GE198 := gw_ hg HB; replace HB := sb_ HB hb; have NB197_198 := nl_ hg BK197; have NB198_197 := ng_ hg BK197; replace BK197 := kb_ BK197 hb; clear hb hbox hg; have hnb38 := NB197_198.out; have hnc38 := NB198_197.out; have hcz39_0 := cz_ BK197 0 (.slice A0_0 l0_0.length c0_0); have hcz39_1 := cz_ BK197 1 (.int .i64 a0_1); have hfz39_0 := blk_frozen BK197.out 0; have hfz39_1 := blk_frozen BK197.out 1; have hcz40_0 := cz_ BK198 0 (.int .i64 a1_0); have hcz40_1 := cz_ BK198 1 (.int .i64 a1_1); have hfz40_0 := blk_frozen BK198.out 0; have hfz40_1 := blk_frozen BK198.out 1) | ((with_reducible refine gate_callee (f := 16) rfl ?_); refine gl_ 15 Tryd.func16 #[.agg #[.slice A0_0 l0_0.length c0_0, .int .i64 a0_1], .int .i64 a1_0] ?_; (with_reducible refine (segment_find.calls k _ _ l0_0 a0_1 a1_0 t199 t200 _ ?side1 ?side2 A4.out).mono ?_); (case side1 => exact pc_ (Kd.C_below HR0_0.out HB.out)); (case side2 => exact HC0_0.out); rintro e w41 ⟨rfl, hb⟩; refine ⟨_, rfl, ?_⟩; replace BK197 := kb_ BK197 hb; replace BK198 := kb_ BK198 hb; replace HB := sb_ HB hb; (try clear hb); (try clear hb2); (try clear hk); (try clear hi)))
 go_ret2
 exact ⟨er_, pb_ HB⟩
def segment_Written.f (k : Nat) (l0_0 : List (S46)) (a0_1 : Int) (a1_0 : Int) (a1_1 : Int) (a2 : ByteArray) : Option ((List (S46)) × Int × Int) := (segment_bytesAt.f k l0_0 a0_1 a1_0 a1_1 (a2.size : Int)).bind fun bt207 => (if bt207.2 = 0 then (if 0 ≤ bt207.1 then (if bt207.1 < (l0_0.length : Int) then (if 0 ≤ a1_1 then (if a1_1 ≤ (((rd_T46 l0_0 bt207.1).f1).size : Int) then (if (a1_1 : Int).toNat + a2.size ≤ 9223372036854775807 then (if 0 ≤ (wrap64 (a1_1 + (a2.size : Int))) then (if (wrap64 (a1_1 + (a2.size : Int))) ≤ (((rd_T46 l0_0 bt207.1).f1).size : Int) then (if (a1_1 : Int).toNat + a2.size + (((rd_T46 l0_0 bt207.1).f1).size - ((wrap64 (a1_1 + (a2.size : Int))) : Int).toNat) ≤ 9223372036854775807 then ((segment_with.f l0_0 a0_1 bt207.1 (((((rd_T46 l0_0 bt207.1).f1).extract 0 (a1_1 : Int).toNat) ++ a2) ++ (((rd_T46 l0_0 bt207.1).f1).extract ((wrap64 (a1_1 + (a2.size : Int))) : Int).toNat ((rd_T46 l0_0 bt207.1).f1).size))).bind fun bt210 => (some (bt210.1, bt210.2, 0))) else (none)) else (none)) else (none)) else (none)) else (none)) else (none)) else (none)) else (none)) else (some (([] : List (S46)), 0, bt207.2)))
def segment_Written.T5 : Bool × List (List Nat × List Nat) := (true, [([], []), ([], []), ([], []), ([], []), ([3], [3]), ([2, 4], [2, 4]), ([], []), ([5, 6], [5, 6]), ([], []), ([], []), ([9], [9]), ([], []), ([11], [11]), ([10, 12], [10, 12]), ([8, 13], [8, 13]), ([7, 14], [7, 14]), ([0, 1, 15], [0, 1, 15]), ([16, 16, 0, 1, 2, 3, 4, 5, 6, 7, 8, 9, 10, 11, 12, 13, 14, 15, 16], [16]), ([17, 0, 1, 2, 3, 4, 5, 6, 7, 8, 9, 10, 11, 12, 13, 14, 15, 16, 17], [])])
def segment_Written.B5 : List Nat := [0, 0, 0, 0, 8, 28, 0, 124, 0, 0, 512, 0, 2048, 7680, 16128, 32764, 65535, 131071, 262143]
theorem segment_Written.tab5 : rtab .any (opsOf Tryd.f44 5) = segment_Written.T5 := by kernel_rfl
theorem segment_Written.bits5 : waitsOk segment_Written.T5.2 segment_Written.B5 = true := by kernel_rfl
set_option maxHeartbeats 8000000 in
set_option maxRecDepth 100000 in
theorem segment_Written.calls (k : Nat) (A0_0 : Option Addr) (c0_0 : Nat) (l0_0 : List (S46)) (a0_1 : Int) (a1_0 : Int) (a1_1 : Int) (a2 : ByteArray) (r1 : List (S46)) (r2 : Int) (r3 : Int) (w : World) (hr0_0 : Kd.C k46 w A0_0 l0_0.length l0_0) (hc0_0 : l0_0.length ≤ c0_0) (h : segment_Written.f k l0_0 a0_1 a1_0 a1_1 a2 = some (r1, r2, r3)) :
  Calls Tryd.prog 44 #[.agg #[.slice A0_0 l0_0.length c0_0, .int .i64 a0_1], .agg #[.int .i64 a1_0, .int .i64 a1_1], .string a2] w fun e w' => ∃ v0_ : Value, e = .returned (.tuple #[.agg #[v0_, .int .i64 r2], .int .i64 r3]) ∧ Kd.R k46 46 w' w.heap.size (fun _ => True) v0_ r1 ∧ Below w.heap.size w w' := by
 have hu24 := Tryd.underlying24
 have hu79 := Tryd.underlying79
 have HR0_0 := Aside0.mk hr0_0
 have HC0_0 := Aside0.mk hc0_0
 clear hr0_0 hc0_0
 have HB := Aside0.mk (Below.refl w.heap.size w)
 have H : ((segment_bytesAt.f k l0_0 a0_1 a1_0 a1_1 (a2.size : Int)).bind fun bt207 => (if bt207.2 = 0 then (if 0 ≤ bt207.1 then (if bt207.1 < (l0_0.length : Int) then (if 0 ≤ a1_1 then (if a1_1 ≤ (((rd_T46 l0_0 bt207.1).f1).size : Int) then (if (a1_1 : Int).toNat + a2.size ≤ 9223372036854775807 then (if 0 ≤ (wrap64 (a1_1 + (a2.size : Int))) then (if (wrap64 (a1_1 + (a2.size : Int))) ≤ (((rd_T46 l0_0 bt207.1).f1).size : Int) then (if (a1_1 : Int).toNat + a2.size + (((rd_T46 l0_0 bt207.1).f1).size - ((wrap64 (a1_1 + (a2.size : Int))) : Int).toNat) ≤ 9223372036854775807 then ((segment_with.f l0_0 a0_1 bt207.1 (((((rd_T46 l0_0 bt207.1).f1).extract 0 (a1_1 : Int).toNat) ++ a2) ++ (((rd_T46 l0_0 bt207.1).f1).extract ((wrap64 (a1_1 + (a2.size : Int))) : Int).toNat ((rd_T46 l0_0 bt207.1).f1).size))).bind fun bt210 => (some (bt210.1, bt210.2, 0))) else (none)) else (none)) else (none)) else (none)) else (none)) else (none)) else (none)) else (none)) else (some (([] : List (S46)), 0, bt207.2)))) = some (r1, r2, r3) := h
 clear h
 replace H := Option.bind_eq_some_iff.mp H
 obtain ⟨⟨t207, t208⟩, A40, H⟩ := H
 replace H : (if t208 = 0 then (if 0 ≤ t207 then (if t207 < (l0_0.length : Int) then (if 0 ≤ a1_1 then (if a1_1 ≤ (((rd_T46 l0_0 t207).f1).size : Int) then (if (a1_1 : Int).toNat + a2.size ≤ 9223372036854775807 then (if 0 ≤ (wrap64 (a1_1 + (a2.size : Int))) then (if (wrap64 (a1_1 + (a2.size : Int))) ≤ (((rd_T46 l0_0 t207).f1).size : Int) then (if (a1_1 : Int).toNat + a2.size + (((rd_T46 l0_0 t207).f1).size - ((wrap64 (a1_1 + (a2.size : Int))) : Int).toNat) ≤ 9223372036854775807 then ((segment_with.f l0_0 a0_1 t207 (((((rd_T46 l0_0 t207).f1).extract 0 (a1_1 : Int).toNat) ++ a2) ++ (((rd_T46 l0_0 t207).f1).extract ((wrap64 (a1_1 + (a2.size : Int))) : Int).toNat ((rd_T46 l0_0 t207).f1).size))).bind fun bt210 => (some (bt210.1, bt210.2, 0))) else (none)) else (none)) else (none)) else (none)) else (none)) else (none)) else (none)) else (none)) else (some (([] : List (S46)), 0, t208))) = some (r1, r2, r3) := H
 have A4 := Aside0.mk A40
 clear A40
 by_cases c5 : t208 = 0
 ·
  rw [if_pos c5] at H
  have c5b0 : (t208 == 0) = true := beq_iff_eq.mpr c5
  have c5b1 : (t208 != 0) = false := bne_eq_false_iff_eq.mpr c5
  clear c5
  by_cases c6 : 0 ≤ t207
  ·
   rw [if_pos c6] at H
   have c6b0 : decide (0 ≤ t207) = true := decide_eq_true c6
   clear c6
   by_cases c7 : t207 < (l0_0.length : Int)
   ·
    rw [if_pos c7] at H
    have c7b0 : decide (t207 < (l0_0.length : Int)) = true := decide_eq_true c7
    clear c7
    by_cases c8 : 0 ≤ a1_1
    ·
     rw [if_pos c8] at H
     have c8b0 := eq_true c8
     have c8b1 : decide (0 ≤ a1_1) = true := decide_eq_true c8
     clear c8
     by_cases c9 : a1_1 ≤ (((rd_T46 l0_0 t207).f1).size : Int)
     ·
      rw [if_pos c9] at H
      have c9b0 := eq_true c9
      have c9b1 : decide (a1_1 ≤ (((rd_T46 l0_0 t207).f1).size : Int)) = true := decide_eq_true c9
      clear c9
      by_cases c10 : (a1_1 : Int).toNat + a2.size ≤ 9223372036854775807
      ·
       rw [if_pos c10] at H
       have c10b0 := eq_true c10
       have c10b1 : decide ((a1_1 : Int).toNat + a2.size ≤ 9223372036854775807) = true := decide_eq_true c10
       try have c10b2 : (9223372036854775807 < (a1_1 : Int).toNat + a2.size) = False := eq_false (Nat.not_lt.2 c10)
       clear c10
       obtain ⟨ji11, hji11⟩ : ∃ j_ : Int, (wrap64 (a1_1 + (a2.size : Int))) = j_ := ⟨_, rfl⟩
       replace H : (if 0 ≤ (ji11) then (if (ji11) ≤ (((rd_T46 l0_0 t207).f1).size : Int) then (if (a1_1 : Int).toNat + a2.size + (((rd_T46 l0_0 t207).f1).size - ((ji11) : Int).toNat) ≤ 9223372036854775807 then ((segment_with.f l0_0 a0_1 t207 (((((rd_T46 l0_0 t207).f1).extract 0 (a1_1 : Int).toNat) ++ a2) ++ (((rd_T46 l0_0 t207).f1).extract ((ji11) : Int).toNat ((rd_T46 l0_0 t207).f1).size))).bind fun bt210 => (some (bt210.1, bt210.2, 0))) else (none)) else (none)) else (none)) = some (r1, r2, r3) := by first | (rw [hji11] at H; exact H) | (simp only [hji11] at H ⊢; exact H)
       (try rw [hji11] at A4)
       have hji11w : (IntKind.i64.wrap (a1_1 + (a2.size : Int))) = ji11 := (i64_w _).trans hji11
       by_cases c12 : 0 ≤ (ji11)
       ·
        rw [if_pos c12] at H
        have c12b0 := eq_true c12
        have c12b1 : decide (0 ≤ (ji11)) = true := decide_eq_true c12
        clear c12
        by_cases c13 : (ji11) ≤ (((rd_T46 l0_0 t207).f1).size : Int)
        ·
         rw [if_pos c13] at H
         have c13b0 := eq_true c13
         have c13b1 : decide ((ji11) ≤ (((rd_T46 l0_0 t207).f1).size : Int)) = true := decide_eq_true c13
         clear c13
         by_cases c14 : (a1_1 : Int).toNat + a2.size + (((rd_T46 l0_0 t207).f1).size - ((ji11) : Int).toNat) ≤ 9223372036854775807
         ·
          rw [if_pos c14] at H
          have c14b0 := eq_true c14
          have c14b1 : decide ((a1_1 : Int).toNat + a2.size + (((rd_T46 l0_0 t207).f1).size - ((ji11) : Int).toNat) ≤ 9223372036854775807) = true := decide_eq_true c14
          try have c14b2 : (9223372036854775807 < (a1_1 : Int).toNat + a2.size + (((rd_T46 l0_0 t207).f1).size - ((ji11) : Int).toNat)) = False := eq_false (Nat.not_lt.2 c14)
          clear c14
          replace H := Option.bind_eq_some_iff.mp H
          obtain ⟨⟨t210, t213⟩, A150, H⟩ := H
          replace H : (some (t210, t213, 0)) = some (r1, r2, r3) := H
          have A15 := Aside0.mk A150
          clear A150
          simp only [Option.some.injEq, Prod.mk.injEq] at H
          obtain ⟨rfl, rfl, rfl⟩ := H
          go_enter Tryd.func44, Tryd.ntmps44
          try go_wp2_with (first | ((with_reducible refine gate_dst (N := 3) rfl ?_); refine bx_ 3 #[.slice A0_0 l0_0.length c0_0, .int .i64 a0_1] 24 ?_; intro gb204 hg w16 hbox hb; have BK204 := Aside0.mk (hbox); have GW204 := gw_ hg HB; have GE204 := gw_ hg HB; replace HB := sb_ HB hb; clear hb hbox hg) | ((with_reducible refine gate_dst (N := 4) rfl ?_); refine bx_ 4 #[.int .i64 a1_0, .int .i64 a1_1] 79 ?_; intro gb205 hg w17 hbox hb; have BK205 := Aside0.mk (hbox); have GW205 := gw_ hg HB; have GE205 := gw_ hg HB; replace HB := sb_ HB hb; have NB204_205 := nl_ hg BK204; have NB205_204 := ng_ hg BK204; replace BK204 := kb_ BK204 hb; clear hb hbox hg) | ((with_reducible refine gate_dst (N := 6) rfl ?_); refine bx_ 6 #[.slice none 0 0, .int .i64 0] 24 ?_; intro gb206 hg w18 hbox hb; have BK206 := Aside0.mk (hbox); have GW206 := gw_ hg HB; have GE206 := gw_ hg HB; replace HB := sb_ HB hb; have NB204_206 := nl_ hg BK204; have NB206_204 := ng_ hg BK204; replace BK204 := kb_ BK204 hb; have NB205_206 := nl_ hg BK205; have NB206_205 := ng_ hg BK205; replace BK205 := kb_ BK205 hb; clear hb hbox hg; have hnb19 := NB204_205.out; have hnc19 := NB205_204.out; have hnb20 := NB204_206.out; have hnc20 := NB206_204.out; have hcz21_0 := cz_ BK204 0 (.slice A0_0 l0_0.length c0_0); have hcz21_1 := cz_ BK204 1 (.int .i64 a0_1); have hfz21_0 := blk_frozen BK204.out 0; have hfz21_1 := blk_frozen BK204.out 1; have hnb22 := NB205_206.out; have hnc22 := NB206_205.out; have hcz23_0 := cz_ BK205 0 (.int .i64 a1_0); have hcz23_1 := cz_ BK205 1 (.int .i64 a1_1); have hfz23_0 := blk_frozen BK205.out 0; have hfz23_1 := blk_frozen BK205.out 1) | ((with_reducible refine gate_callee (f := 58) rfl ?_); refine gl_ 16 Tryd.func58 #[.agg #[.slice A0_0 l0_0.length c0_0, .int .i64 a0_1], .agg #[.int .i64 a1_0, .int .i64 a1_1], .int .i64 (a2.size : Int)] ?_; (with_reducible refine (segment_bytesAt.calls k _ _ l0_0 a0_1 a1_0 a1_1 (a2.size : Int) t207 t208 _ ?side1 ?side2 A4.out).mono ?_); (case side1 => exact pc_ (Kd.C_below HR0_0.out HB.out)); (case side2 => exact HC0_0.out); rintro e w24 ⟨rfl, hb⟩; refine ⟨_, rfl, ?_⟩; replace BK204 := kb_ BK204 hb; replace BK205 := kb_ BK205 hb; replace BK206 := kb_ BK206 hb; replace HB := sb_ HB hb; (try clear hb); (try clear hb2); (try clear hk); (try clear hi); have hcz25_0 := cz_ BK204 0 (.slice A0_0 l0_0.length c0_0); have hcz25_1 := cz_ BK204 1 (.int .i64 a0_1); have hfz25_0 := blk_frozen BK204.out 0; have hfz25_1 := blk_frozen BK204.out 1; have p209 : 0 ≤ (t207 : Int) := ct_; have q209 : t207 < (l0_0.length : Int) := ct_; obtain ⟨ad209, e209, hx209_0, hx209_1⟩ := at_T46 HR0_0.out t207 p209 q209; cases e209; replace hx209_0 := pw_cell_below HB.out hx209_0; replace hx209_1 := pw_cell_below HB.out hx209_1; replace p209 := eq_true p209; replace q209 := eq_true q209))
          replace BK204 := Aside0.mk (blk_drew BK204.out)
          replace BK205 := Aside0.mk (blk_drew BK205.out)
          replace BK206 := Aside0.mk (blk_drew BK206.out)
          replace HB := Aside0.mk (below_drew1 HB.out)
          refine start_ (n := 19) (S := fun w' => w'.cell? ⟨gb204, 0, none⟩ = some (.slice (some ad209) l0_0.length c0_0) ∧ w'.cell? ⟨gb204, 1, none⟩ = some (.int .i64 a0_1) ∧ w'.cell? ⟨gb205, 0, none⟩ = some (.int .i64 a1_0) ∧ w'.cell? ⟨gb205, 1, none⟩ = some (.int .i64 a1_1)) (ds := []) #[false, false, false, false, false, false, false, false, false, false, false, false, false, false, false, false, false, false, false] (by kernel_rfl) rfl rfl ⟨cy_ BK204 0, cy_ BK204 1, cy_ BK205 0, cy_ BK205 1⟩ (fun hHeld => ?_); refine with_tabW segment_Written.tab5 segment_Written.bits5 (fun HT_ HW_ => ?_)
          generalize w24.drew = w26 at BK204 BK205 BK206 HB hHeld ⊢
          refine pu_ 1 30 HT_ ?_
          refine pu_ 2 31 HT_ ?_
          refine pu_ 3 32 HT_ ?_
          refine pu_ 6 35 HT_ ?_
          refine pu_ 8 37 HT_ ?_
          refine pu_ 9 38 HT_ ?_
          refine pu_ 11 40 HT_ ?_
          refine pu_ 12 41 HT_ ?_
          refine tk_ 0 29 HT_ HW_ hHeld rfl (Or.inl ⟨by rfl, by rintro w' ⟨s0, s1, s2, s3⟩; go_simp; with_reducible rfl⟩) ?_
          refine tk_ 4 33 HT_ HW_ hHeld rfl (Or.inl ⟨by rfl, by rintro w' ⟨s0, s1, s2, s3⟩; go_simp; with_reducible rfl⟩) ?_
          refine pu_ 5 34 HT_ ?_
          refine pu_ 7 36 HT_ ?_
          refine tk_ 10 39 HT_ HW_ hHeld rfl (Or.inl ⟨by rfl, by rintro w' ⟨s0, s1, s2, s3⟩; go_simp; with_reducible rfl⟩) ?_
          refine pu_ 13 42 HT_ ?_
          refine pu_ 14 43 HT_ ?_
          refine pu_ 15 44 HT_ ?_
          refine one_ (i := 16) (N := some 45) #[true, true, true, true, true, true, true, true, true, true, true, true, true, true, true, true, true, false, false] rfl rfl (one_of HT_.out (by kernel_rfl)) (by decide) (fun K hK => ?_)
          refine goes_ Tryd.func57 (by kernel_rfl) rfl #[.agg #[.slice (some ad209) l0_0.length c0_0, .int .i64 a0_1], .int .i64 t207, .string (((((rd_T46 l0_0 t207).f1).extract 0 (a1_1 : Int).toNat) ++ a2) ++ (((rd_T46 l0_0 t207).f1).extract ((ji11) : Int).toNat ((rd_T46 l0_0 t207).f1).size))] (by rfl) rfl rfl (by (try simp only [List.map_toArray, List.map_cons, List.map_nil]); first | done | (simp only [hji11]; rfl) | rfl | (simp only [List.length_drop, List.length_take]; rfl)) ?_
          with_reducible refine (segment_with.calls _ _ l0_0 a0_1 t207 (((((rd_T46 l0_0 t207).f1).extract 0 (a1_1 : Int).toNat) ++ a2) ++ (((rd_T46 l0_0 t207).f1).extract ((ji11) : Int).toNat ((rd_T46 l0_0 t207).f1).size)) t210 t213 _ ?side1 ?side2 A15.out).mono ?_
          (case side1 => exact pc_ (Kd.C_below HR0_0.out HB.out))
          (case side2 => exact HC0_0.out)
          rintro e w27 ⟨v211, rfl, ho0, hb⟩
          refine ⟨_, rfl, ?_⟩
          have HO212 := Aside0.mk (Kd.R_lower ho0 (below_size (pb_ HB)))
          replace BK204 := kb_ BK204 hb
          replace BK205 := kb_ BK205 hb
          replace BK206 := kb_ BK206 hb
          replace HB := sb_ HB hb
          (try clear hb)
          (try clear hb2)
          (try clear hk)
          (try clear hi)
          (try clear ho0)
          obtain ⟨Ao28, co28, eo28⟩ := Kd.R_slice HO212.out
          (first | subst eo28 | (injection eo28 with f1_ f2_ f3_; have f4_ := f1_.symm; have f5_ := f3_.symm; clear f1_ f2_ f3_; subst f4_; subst f5_))
          refine hK.out _ _ ⟨cy_ BK204 0, cy_ BK204 1, cy_ BK205 0, cy_ BK205 1⟩ (fun hHeld => ?_)
          clear hK K
          refine nn_ 45 ?_
          refine one_ (i := 17) (N := none) #[true, true, true, true, true, true, true, true, true, true, true, true, true, true, true, true, true, true, false] rfl rfl (one_of HT_.out (by kernel_rfl)) (by decide) (fun K hK => ?_)
          have hs29 : w27.cell? ⟨gb206, 0, none⟩ = some (.slice none 0 0) := (blk_cell BK206.out 0).trans rfl
          have hfs29 := blk_frozen BK206.out 0
          have hns29_0 := NB204_206.out
          have hns29_1 := NB205_206.out
          have hms29_0 := NB206_204.out
          have hms29_1 := NB206_205.out
          have hs30 : w27.cell? ⟨gb206, 1, none⟩ = some (.int .i64 0) := (blk_cell BK206.out 1).trans rfl
          have hfs30 := blk_frozen BK206.out 1
          have hns30_0 := NB204_206.out
          have hns30_1 := NB205_206.out
          have hms30_0 := NB206_204.out
          have hms30_1 := NB206_205.out
          refine skip_ (w1 := ?_) (by rfl) rfl ?_ ?_
          rotate_left
          ·
           go_simp
           rfl
          refine hK.out _ _ ⟨((cell_far (p := ⟨gb206, _, none⟩) NB204_206.out _).trans (((cell_far (p := ⟨gb206, _, none⟩) NB204_206.out _).trans (hHeld.1)))), ((cell_far (p := ⟨gb206, _, none⟩) NB204_206.out _).trans (((cell_far (p := ⟨gb206, _, none⟩) NB204_206.out _).trans (hHeld.2.1)))), ((cell_far (p := ⟨gb206, _, none⟩) NB205_206.out _).trans (((cell_far (p := ⟨gb206, _, none⟩) NB205_206.out _).trans (hHeld.2.2.1)))), ((cell_far (p := ⟨gb206, _, none⟩) NB205_206.out _).trans (((cell_far (p := ⟨gb206, _, none⟩) NB205_206.out _).trans (hHeld.2.2.2))))⟩ (fun hHeld => ?_)
          clear hK K
          refine pu_ 18 7 HT_ ?_
          refine done_ (done_of HT_.out (by kernel_rfl)) ?_
          try go_wp2
          refine bodyPost_ret (results_ct rfl _ _ gb206 24 #[.slice Ao28 t210.length co28, .int .i64 t213] (0, 0) _ rfl (bq_ BK206) Tryd.underlying24 rfl (by kernel_rfl)) rfl ?_
          exact ⟨_, by first | rfl | (simp [errW_none, errW_some] <;> rfl) | (simp only [← hji11]; first | rfl | (simp [errW_none, errW_some] <;> rfl)) | (simp [*, errW_none, errW_some] <;> rfl), by (with_reducible repeat (first | apply Kd.R_alloc | apply Kd.R_drewN | apply Kd.R_drew)); exact Kd.R_mono (Kd.R_far (p := ⟨gb206, 1, none⟩) (Kd.R_far (p := ⟨gb206, 0, none⟩) (Kd.R_types HO212.out BK206.out (by decide)) (fun _ hk => hk.2) (.slice Ao28 t210.length co28)) (fun _ hk => hk.2) (.int .i64 t213)) (fun _ hk => trivial), pb_ HB⟩
         rw [if_neg c14] at H
         exact absurd H (by simp)
        rw [if_neg c13] at H
        exact absurd H (by simp)
       rw [if_neg c12] at H
       exact absurd H (by simp)
      rw [if_neg c10] at H
      exact absurd H (by simp)
     rw [if_neg c9] at H
     exact absurd H (by simp)
    rw [if_neg c8] at H
    exact absurd H (by simp)
   rw [if_neg c7] at H
   exact absurd H (by simp)
  rw [if_neg c6] at H
  exact absurd H (by simp)
 rw [if_neg c5] at H
 have c5b0 : (t208 == 0) = false := beq_eq_false_iff_ne.mpr c5
 have c5b1 : (t208 != 0) = true := bne_iff_ne.mpr c5
 simp only [Option.some.injEq, Prod.mk.injEq] at H
 obtain ⟨rfl, rfl, rfl⟩ := H
 go_enter Tryd.func44, Tryd.ntmps44
 go_wp2_with (first | ((with_reducible refine gate_dst (N := 3) rfl ?_); refine bx_ 3 #[.slice A0_0 l0_0.length c0_0, .int .i64 a0_1] 24 ?_; intro gb204 hg w31 hbox hb; have BK204 := Aside0.mk (hbox); have GW204 := gw_ hg HB; have GE204 := gw_ hg HB; replace HB := sb_ HB hb; clear hb hbox hg) | ((with_reducible refine gate_dst (N := 4) rfl ?_); refine bx_ 4 #[.int .i64 a1_0, .int .i64 a1_1] 79 ?_; intro gb205 hg w32 hbox hb; have BK205 := Aside0.mk (hbox); have GW205 := gw_ hg HB; have GE205 := gw_ hg HB; replace HB := sb_ HB hb; have NB204_205 := nl_ hg BK204; have NB205_204 := ng_ hg BK204; replace BK204 := kb_ BK204 hb; clear hb hbox hg) | ((with_reducible refine gate_dst (N := 6) rfl ?_); refine bx_ 6 #[.slice none 0 0, .int .i64 0] 24 ?_; intro gb206 hg w33 hbox hb; have BK206 := Aside0.mk (hbox); have GW206 := gw_ hg HB; have GE206 := gw_ hg HB; replace HB := sb_ HB hb; have NB204_206 := nl_ hg BK204; have NB206_204 := ng_ hg BK204; replace BK204 := kb_ BK204 hb; have NB205_206 := nl_ hg BK205; have NB206_205 := ng_ hg BK205; replace BK205 := kb_ BK205 hb; clear hb hbox hg; have hnb34 := NB204_205.out; have hnc34 := NB205_204.out; have hnb35 := NB204_206.out; have hnc35 := NB206_204.out; have hcz36_0 := cz_ BK204 0 (.slice A0_0 l0_0.length c0_0); have hcz36_1 := cz_ BK204 1 (.int .i64 a0_1); have hfz36_0 := blk_frozen BK204.out 0; have hfz36_1 := blk_frozen BK204.out 1; have hnb37 := NB205_206.out; have hnc37 := NB206_205.out; have hcz38_0 := cz_ BK205 0 (.int .i64 a1_0); have hcz38_1 := cz_ BK205 1 (.int .i64 a1_1); have hfz38_0 := blk_frozen BK205.out 0; have hfz38_1 := blk_frozen BK205.out 1) | ((with_reducible refine gate_callee (f := 58) rfl ?_); refine gl_ 16 Tryd.func58 #[.agg #[.slice A0_0 l0_0.length c0_0, .int .i64 a0_1], .agg #[.int .i64 a1_0, .int .i64 a1_1], .int .i64 (a2.size : Int)] ?_; (with_reducible refine (segment_bytesAt.calls k _ _ l0_0 a0_1 a1_0 a1_1 (a2.size : Int) t207 t208 _ ?side1 ?side2 A4.out).mono ?_); (case side1 => exact pc_ (Kd.C_below HR0_0.out HB.out)); (case side2 => exact HC0_0.out); rintro e w39 ⟨rfl, hb⟩; refine ⟨_, rfl, ?_⟩; replace BK204 := kb_ BK204 hb; replace BK205 := kb_ BK205 hb; replace BK206 := kb_ BK206 hb; replace HB := sb_ HB hb; (try clear hb); (try clear hb2); (try clear hk); (try clear hi); have hcz40_0 := cz_ BK206 0 (.slice none 0 0); have hcz40_1 := cz_ BK206 1 (.int .i64 0); have hfz40_0 := blk_frozen BK206.out 0; have hfz40_1 := blk_frozen BK206.out 1))
 refine bodyPost_ret (results_ct rfl _ _ gb206 24 #[.slice none 0 0, .int .i64 0] (0, 0) _ rfl (bq_ BK206) Tryd.underlying24 rfl (by kernel_rfl)) rfl ?_
 exact ⟨_, er_, by first | exact Kd.R_nil _ _ _ _ _ | exact Kd.N_nil _ _ _ _ _ | exact Kd.V_nil _ _ _ _ _ | exact Kd.Q_nil _ _ _ _ _ | exact Kd.S_nil _ _ _ _ _, pb_ HB⟩
end Go.Proofs.YtoabahlaicgmjaaDoor.X
end
