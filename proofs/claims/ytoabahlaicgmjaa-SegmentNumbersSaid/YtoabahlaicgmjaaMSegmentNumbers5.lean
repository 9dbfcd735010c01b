-- Texts of this claim joined by merge.py, a program of its author; what this claim does not reach is left out.
import Derived.Test.YtoabahlaicgmjaaMSegmentNumbers4
section
namespace Go.Proofs.Ytoabahlaicgmjaa.X
open Go.Proofs.Ytoabahlaicgmjaa.XW Go.Proofs.Ytoabahlaicgmjaa.XS
open Go.RowKit Go.Proofs.YtoabahlaicgmjaaW.PrintWords Go.Proofs.YtoabahlaicgmjaaW.PrintLast Go.Proofs.YtoabahlaicgmjaaW.PrintMore
attribute [local go_sem] max2_int min2_int max_two min_two max_three min_three max_four min_four   -- for this text's walks alone
set_option linter.unusedVariables false
set_option linter.unusedSimpArgs false
def segment_Written.f (k : Nat) (l0_0 : List (S56)) (a0_1 : Int) (a1_0 : Int) (a1_1 : Int) (a2 : ByteArray) : Option ((List (S56)) × Int × Int) := (segment_bytesAt.f k l0_0 a0_1 a1_0 a1_1 (a2.size : Int)).bind fun bt452 => (if bt452.2 = 0 then (if 0 ≤ bt452.1 then (if bt452.1 < (l0_0.length : Int) then (if 0 ≤ a1_1 then (if a1_1 ≤ (((rd_T56 l0_0 bt452.1).f1).size : Int) then (if (a1_1 : Int).toNat + a2.size ≤ 9223372036854775807 then (if 0 ≤ (wrap64 (a1_1 + (a2.size : Int))) then (if (wrap64 (a1_1 + (a2.size : Int))) ≤ (((rd_T56 l0_0 bt452.1).f1).size : Int) then (if (a1_1 : Int).toNat + a2.size + (((rd_T56 l0_0 bt452.1).f1).size - ((wrap64 (a1_1 + (a2.size : Int))) : Int).toNat) ≤ 9223372036854775807 then ((segment_with.f l0_0 a0_1 bt452.1 (((((rd_T56 l0_0 bt452.1).f1).extract 0 (a1_1 : Int).toNat) ++ a2) ++ (((rd_T56 l0_0 bt452.1).f1).extract ((wrap64 (a1_1 + (a2.size : Int))) : Int).toNat ((rd_T56 l0_0 bt452.1).f1).size))).bind fun bt455 => (some (bt455.1, bt455.2, 0))) else (none)) else (none)) else (none)) else (none)) else (none)) else (none)) else (none)) else (none)) else (some (([] : List (S56)), 0, bt452.2)))
def segment_Written.T5 : Bool × List (List Nat × List Nat) := (true, [([], []), ([], []), ([], []), ([], []), ([3], [3]), ([2, 4], [2, 4]), ([], []), ([5, 6], [5, 6]), ([], []), ([], []), ([9], [9]), ([], []), ([11], [11]), ([10, 12], [10, 12]), ([8, 13], [8, 13]), ([7, 14], [7, 14]), ([0, 1, 15], [0, 1, 15]), ([16, 16, 0, 1, 2, 3, 4, 5, 6, 7, 8, 9, 10, 11, 12, 13, 14, 15, 16], [16]), ([17, 0, 1, 2, 3, 4, 5, 6, 7, 8, 9, 10, 11, 12, 13, 14, 15, 16, 17], [])])
def segment_Written.B5 : List Nat := [0, 0, 0, 0, 8, 28, 0, 124, 0, 0, 512, 0, 2048, 7680, 16128, 32764, 65535, 131071, 262143]
theorem segment_Written.tab5 : rtab .any (opsOf Try.f27 5) = segment_Written.T5 := by kernel_rfl
theorem segment_Written.bits5 : waitsOk segment_Written.T5.2 segment_Written.B5 = true := by kernel_rfl
set_option maxHeartbeats 8000000 in
set_option maxRecDepth 100000 in
theorem segment_Written.calls (k : Nat) (A0_0 : Option Addr) (c0_0 : Nat) (l0_0 : List (S56)) (a0_1 : Int) (a1_0 : Int) (a1_1 : Int) (a2 : ByteArray) (r1 : List (S56)) (r2 : Int) (r3 : Int) (w : World) (hr0_0 : Kd.C k56 w A0_0 l0_0.length l0_0) (hc0_0 : l0_0.length ≤ c0_0) (h : segment_Written.f k l0_0 a0_1 a1_0 a1_1 a2 = some (r1, r2, r3)) :
  Calls Try.prog 27 #[.agg #[.slice A0_0 l0_0.length c0_0, .int .i64 a0_1], .agg #[.int .i64 a1_0, .int .i64 a1_1], .string a2] w fun e w' => ∃ v0_ : Value, e = .returned (.tuple #[.agg #[v0_, .int .i64 r2], .int .i64 r3]) ∧ Kd.R k56 56 w' w.heap.size (fun _ => True) v0_ r1 ∧ Below w.heap.size w w' := by
 have hu24 := Try.underlying24
 have hu46 := Try.underlying46
 have HR0_0 := Aside0.mk hr0_0
 have HC0_0 := Aside0.mk hc0_0
 clear hr0_0 hc0_0
 have HB := Aside0.mk (Below.refl w.heap.size w)
 have H : ((segment_bytesAt.f k l0_0 a0_1 a1_0 a1_1 (a2.size : Int)).bind fun bt452 => (if bt452.2 = 0 then (if 0 ≤ bt452.1 then (if bt452.1 < (l0_0.length : Int) then (if 0 ≤ a1_1 then (if a1_1 ≤ (((rd_T56 l0_0 bt452.1).f1).size : Int) then (if (a1_1 : Int).toNat + a2.size ≤ 9223372036854775807 then (if 0 ≤ (wrap64 (a1_1 + (a2.size : Int))) then (if (wrap64 (a1_1 + (a2.size : Int))) ≤ (((rd_T56 l0_0 bt452.1).f1).size : Int) then (if (a1_1 : Int).toNat + a2.size + (((rd_T56 l0_0 bt452.1).f1).size - ((wrap64 (a1_1 + (a2.size : Int))) : Int).toNat) ≤ 9223372036854775807 then ((segment_with.f l0_0 a0_1 bt452.1 (((((rd_T56 l0_0 bt452.1).f1).extract 0 (a1_1 : Int).toNat) ++ a2) ++ (((rd_T56 l0_0 bt452.1).f1).extract ((wrap64 (a1_1 + (a2.size : Int))) : Int).toNat ((rd_T56 l0_0 bt452.1).f1).size))).bind fun bt455 => (some (bt455.1, bt455.2, 0))) else (none)) else (none)) else (none)) else (none)) else (none)) else (none)) else (none)) else (none)) else (some (([] : List (S56)), 0, bt452.2)))) = some (r1, r2, r3) := h
 clear h
 replace H := Option.bind_eq_some_iff.mp H
 obtain ⟨⟨t452, t453⟩, A40, H⟩ := H
 replace H : (if t453 = 0 then (if 0 ≤ t452 then (if t452 < (l0_0.length : Int) then (if 0 ≤ a1_1 then (if a1_1 ≤ (((rd_T56 l0_0 t452).f1).size : Int) then (if (a1_1 : Int).toNat + a2.size ≤ 9223372036854775807 then (if 0 ≤ (wrap64 (a1_1 + (a2.size : Int))) then (if (wrap64 (a1_1 + (a2.size : Int))) ≤ (((rd_T56 l0_0 t452).f1).size : Int) then (if (a1_1 : Int).toNat + a2.size + (((rd_T56 l0_0 t452).f1).size - ((wrap64 (a1_1 + (a2.size : Int))) : Int).toNat) ≤ 9223372036854775807 then ((segment_with.f l0_0 a0_1 t452 (((((rd_T56 l0_0 t452).f1).extract 0 (a1_1 : Int).toNat) ++ a2) ++ (((rd_T56 l0_0 t452).f1).extract ((wrap64 (a1_1 + (a2.size : Int))) : Int).toNat ((rd_T56 l0_0 t452).f1).size))).bind fun bt455 => (some (bt455.1, bt455.2, 0))) else (none)) else (none)) else (none)) else (none)) else (none)) else (none)) else (none)) else (none)) else (some (([] : List (S56)), 0, t453))) = some (r1, r2, r3) := H
 have A4 := Aside0.mk A40
 clear A40
 by_cases c5 : t453 = 0
 ·
  rw [if_pos c5] at H
  have c5b0 : (t453 == 0) = true := beq_iff_eq.mpr c5
  have c5b1 : (t453 != 0) = false := bne_eq_false_iff_eq.mpr c5
  clear c5
  by_cases c6 : 0 ≤ t452
  ·
   rw [if_pos c6] at H
   have c6b0 : decide (0 ≤ t452) = true := decide_eq_true c6
   clear c6
   by_cases c7 : t452 < (l0_0.length : Int)
   ·
    rw [if_pos c7] at H
    have c7b0 : decide (t452 < (l0_0.length : Int)) = true := decide_eq_true c7
    clear c7
    by_cases c8 : 0 ≤ a1_1
    ·
     rw [if_pos c8] at H
     have c8b0 := eq_true c8
     have c8b1 : decide (0 ≤ a1_1) = true := decide_eq_true c8
     clear c8
     by_cases c9 : a1_1 ≤ (((rd_T56 l0_0 t452).f1).size : Int)
     ·
      rw [if_pos c9] at H
      have c9b0 := eq_true c9
      have c9b1 : decide (a1_1 ≤ (((rd_T56 l0_0 t452).f1).size : Int)) = true := decide_eq_true c9
      clear c9
      by_cases c10 : (a1_1 : Int).toNat + a2.size ≤ 9223372036854775807
      ·
       rw [if_pos c10] at H
       have c10b0 := eq_true c10
       have c10b1 : decide ((a1_1 : Int).toNat + a2.size ≤ 9223372036854775807) = true := decide_eq_true c10
       try have c10b2 : (9223372036854775807 < (a1_1 : Int).toNat + a2.size) = False := eq_false (Nat.not_lt.2 c10)
       clear c10
       obtain ⟨ji11, hji11⟩ : ∃ j_ : Int, (wrap64 (a1_1 + (a2.size : Int))) = j_ := ⟨_, rfl⟩
       replace H : (if 0 ≤ (ji11) then (if (ji11) ≤ (((rd_T56 l0_0 t452).f1).size : Int) then (if (a1_1 : Int).toNat + a2.size + (((rd_T56 l0_0 t452).f1).size - ((ji11) : Int).toNat) ≤ 9223372036854775807 then ((segment_with.f l0_0 a0_1 t452 (((((rd_T56 l0_0 t452).f1).extract 0 (a1_1 : Int).toNat) ++ a2) ++ (((rd_T56 l0_0 t452).f1).extract ((ji11) : Int).toNat ((rd_T56 l0_0 t452).f1).size))).bind fun bt455 => (some (bt455.1, bt455.2, 0))) else (none)) else (none)) else (none)) = some (r1, r2, r3) := by first | (rw [hji11] at H; exact H) | (simp only [hji11] at H ⊢; exact H)
       (try rw [hji11] at A4)
       have hji11w : (IntKind.i64.wrap (a1_1 + (a2.size : Int))) = ji11 := (i64_w _).trans hji11
       by_cases c12 : 0 ≤ (ji11)
       ·
        rw [if_pos c12] at H
        have c12b0 := eq_true c12
        have c12b1 : decide (0 ≤ (ji11)) = true := decide_eq_true c12
        clear c12
        by_cases c13 : (ji11) ≤ (((rd_T56 l0_0 t452).f1).size : Int)
        ·
         rw [if_pos c13] at H
         have c13b0 := eq_true c13
         have c13b1 : decide ((ji11) ≤ (((rd_T56 l0_0 t452).f1).size : Int)) = true := decide_eq_true c13
         clear c13
         by_cases c14 : (a1_1 : Int).toNat + a2.size + (((rd_T56 l0_0 t452).f1).size - ((ji11) : Int).toNat) ≤ 9223372036854775807
         ·
          rw [if_pos c14] at H
          have c14b0 := eq_true c14
          have c14b1 : decide ((a1_1 : Int).toNat + a2.size + (((rd_T56 l0_0 t452).f1).size - ((ji11) : Int).toNat) ≤ 9223372036854775807) = true := decide_eq_true c14
          try have c14b2 : (9223372036854775807 < (a1_1 : Int).toNat + a2.size + (((rd_T56 l0_0 t452).f1).size - ((ji11) : Int).toNat)) = False := eq_false (Nat.not_lt.2 c14)
          clear c14
          replace H := Option.bind_eq_some_iff.mp H
          obtain ⟨⟨t455, t458⟩, A150, H⟩ := H
          replace H : (some (t455, t458, 0)) = some (r1, r2, r3) := H
          have A15 := Aside0.mk A150
          clear A150
          simp only [Option.some.injEq, Prod.mk.injEq] at H
          obtain ⟨rfl, rfl, rfl⟩ := H
          go_enter Try.func27, Try.ntmps27
          try go_wp2_with (first | ((with_reducible refine gate_dst (N := 3) rfl ?_); refine bx_ 3 #[.slice A0_0 l0_0.length c0_0, .int .i64 a0_1] 24 ?_; intro gb449 hg w16 hbox hb; have BK449 := Aside0.mk (hbox); have GW449 := gw_ hg HB; have GE449 := gw_ hg HB; replace HB := sb_ HB hb; clear hb hbox hg) | ((with_reducible refine gate_dst (N := 4) rfl ?_); refine bx_ 4 #[.int .i64 a1_0, .int .i64 a1_1] 46 ?_; intro gb450 hg w17 hbox hb; have BK450 := Aside0.mk (hbox); have GW450 := gw_ hg HB; have GE450 := gw_ hg HB; replace HB := sb_ HB hb; have NB449_450 := nl_ hg BK449; have NB450_449 := ng_ hg BK449; replace BK449 := kb_ BK449 hb; clear hb hbox hg) | ((with_reducible refine gate_dst (N := 6) rfl ?_); refine bx_ 6 #[.slice none 0 0, .int .i64 0] 24 ?_; intro gb451 hg w18 hbox hb; have BK451 := Aside0.mk (hbox); have GW451 := gw_ hg HB; have GE451 := gw_ hg HB; replace HB := sb_ HB hb; have NB449_451 := nl_ hg BK449; have NB451_449 := ng_ hg BK449; replace BK449 := kb_ BK449 hb; have NB450_451 := nl_ hg BK450; have NB451_450 := ng_ hg BK450; replace BK450 := kb_ BK450 hb; clear hb hbox hg; have hnb19 := NB449_450.out; have hnc19 := NB450_449.out; have hnb20 := NB449_451.out; have hnc20 := NB451_449.out; have hcz21_0 := cz_ BK449 0 (.slice A0_0 l0_0.length c0_0); have hcz21_1 := cz_ BK449 1 (.int .i64 a0_1); have hfz21_0 := blk_frozen BK449.out 0; have hfz21_1 := blk_frozen BK449.out 1; have hnb22 := NB450_451.out; have hnc22 := NB451_450.out; have hcz23_0 := cz_ BK450 0 (.int .i64 a1_0); have hcz23_1 := cz_ BK450 1 (.int .i64 a1_1); have hfz23_0 := blk_frozen BK450.out 0; have hfz23_1 := blk_frozen BK450.out 1) | ((with_reducible refine gate_callee (f := 49) rfl ?_); refine gl_ 16 Try.func49 #[.agg #[.slice A0_0 l0_0.length c0_0, .int .i64 a0_1], .agg #[.int .i64 a1_0, .int .i64 a1_1], .int .i64 (a2.size : Int)] ?_; (with_reducible refine (segment_bytesAt.calls k _ _ l0_0 a0_1 a1_0 a1_1 (a2.size : Int) t452 t453 _ ?side1 ?side2 A4.out).mono ?_); (case side1 => exact pc_ (Kd.C_below HR0_0.out HB.out)); (case side2 => exact HC0_0.out); rintro e w24 ⟨rfl, hb⟩; refine ⟨_, rfl, ?_⟩; replace BK449 := kb_ BK449 hb; replace BK450 := kb_ BK450 hb; replace BK451 := kb_ BK451 hb; replace HB := sb_ HB hb; (try clear hb); (try clear hb2); (try clear hk); (try clear hi); have hcz25_0 := cz_ BK449 0 (.slice A0_0 l0_0.length c0_0); have hcz25_1 := cz_ BK449 1 (.int .i64 a0_1); have hfz25_0 := blk_frozen BK449.out 0; have hfz25_1 := blk_frozen BK449.out 1; have p454 : 0 ≤ (t452 : Int) := ct_; have q454 : t452 < (l0_0.length : Int) := ct_; obtain ⟨ad454, e454, hx454_0, hx454_1⟩ := at_T56 HR0_0.out t452 p454 q454; cases e454; replace hx454_0 := pw_cell_below HB.out hx454_0; replace hx454_1 := pw_cell_below HB.out hx454_1; replace p454 := eq_true p454; replace q454 := eq_true q454))
          replace BK449 := Aside0.mk (blk_drew BK449.out)
          replace BK450 := Aside0.mk (blk_drew BK450.out)
          replace BK451 := Aside0.mk (blk_drew BK451.out)
          replace HB := Aside0.mk (below_drew1 HB.out)
          refine start_ (n := 19) (S := fun w' => w'.cell? ⟨gb449, 0, none⟩ = some (.slice (some ad454) l0_0.length c0_0) ∧ w'.cell? ⟨gb449, 1, none⟩ = some (.int .i64 a0_1) ∧ w'.cell? ⟨gb450, 0, none⟩ = some (.int .i64 a1_0) ∧ w'.cell? ⟨gb450, 1, none⟩ = some (.int .i64 a1_1)) (ds := []) #[false, false, false, false, false, false, false, false, false, false, false, false, false, false, false, false, false, false, false] (by kernel_rfl) rfl rfl ⟨cy_ BK449 0, cy_ BK449 1, cy_ BK450 0, cy_ BK450 1⟩ (fun hHeld => ?_); refine with_tabW segment_Written.tab5 segment_Written.bits5 (fun HT_ HW_ => ?_)
          generalize w24.drew = w26 at BK449 BK450 BK451 HB hHeld ⊢
          refine pu_ 1 30 HT_ ?_
          refine pu_ 2 31 HT_ ?_
          refine pu_ 3 32 HT_ ?_
          refine pu_ 6 35 HT_ ?_
          refine pu_ 8 37 HT_ ?_
          refine pu_ 9 38 HT_ ?_
          refine pu_ 11 40 HT_ ?_
          refine pu_ 12 41 HT_ ?_
          refine tk_ 0 29 HT_ HW_ hHeld rfl (Or.inl ⟨by rfl, by rintro w' ⟨s0, s1, s2, s3⟩; go_simp; with_reducible rfl⟩) ?_
          refine tk_ 4 33 HT_ HW_ hHeld rfl (Or.inl ⟨by rfl, by rintro w' ⟨s0, s1, s2, s3⟩; go_simp; with_reducible rfl⟩) ?_
          refine pu_ 5 34 HT_ ?_
          refine pu_ 7 36 HT_ ?_
          refine tk_ 10 39 HT_ HW_ hHeld rfl (Or.inl ⟨by rfl, by rintro w' ⟨s0, s1, s2, s3⟩; go_simp; with_reducible rfl⟩) ?_
          refine pu_ 13 42 HT_ ?_
          refine pu_ 14 43 HT_ ?_
          refine pu_ 15 44 HT_ ?_
          refine one_ (i := 16) (N := some 45) #[true, true, true, true, true, true, true, true, true, true, true, true, true, true, true, true, true, false, false] rfl rfl (one_of HT_.out (by kernel_rfl)) (by decide) (fun K hK => ?_)
          refine goes_ Try.func47 (by kernel_rfl) rfl #[.agg #[.slice (some ad454) l0_0.length c0_0, .int .i64 a0_1], .int .i64 t452, .string (((((rd_T56 l0_0 t452).f1).extract 0 (a1_1 : Int).toNat) ++ a2) ++ (((rd_T56 l0_0 t452).f1).extract ((ji11) : Int).toNat ((rd_T56 l0_0 t452).f1).size))] (by rfl) rfl rfl (by (try simp only [List.map_toArray, List.map_cons, List.map_nil]); first | done | (simp only [hji11]; rfl) | rfl | (simp only [List.length_drop, List.length_take]; rfl)) ?_
          with_reducible refine (segment_with.calls _ _ l0_0 a0_1 t452 (((((rd_T56 l0_0 t452).f1).extract 0 (a1_1 : Int).toNat) ++ a2) ++ (((rd_T56 l0_0 t452).f1).extract ((ji11) : Int).toNat ((rd_T56 l0_0 t452).f1).size)) t455 t458 _ ?side1 ?side2 A15.out).mono ?_
          (case side1 => exact pc_ (Kd.C_below HR0_0.out HB.out))
          (case side2 => exact HC0_0.out)
          rintro e w27 ⟨v456, rfl, ho0, hb⟩
          refine ⟨_, rfl, ?_⟩
          have HO457 := Aside0.mk (Kd.R_lower ho0 (below_size (pb_ HB)))
          replace BK449 := kb_ BK449 hb
          replace BK450 := kb_ BK450 hb
          replace BK451 := kb_ BK451 hb
          replace HB := sb_ HB hb
          (try clear hb)
          (try clear hb2)
          (try clear hk)
          (try clear hi)
          (try clear ho0)
          obtain ⟨Ao28, co28, eo28⟩ := Kd.R_slice HO457.out
          (first | subst eo28 | (injection eo28 with f1_ f2_ f3_; have f4_ := f1_.symm; have f5_ := f3_.symm; clear f1_ f2_ f3_; subst f4_; subst f5_))
          refine hK.out _ _ ⟨cy_ BK449 0, cy_ BK449 1, cy_ BK450 0, cy_ BK450 1⟩ (fun hHeld => ?_)
          clear hK K
          refine nn_ 45 ?_
          refine one_ (i := 17) (N := none) #[true, true, true, true, true, true, true, true, true, true, true, true, true, true, true, true, true, true, false] rfl rfl (one_of HT_.out (by kernel_rfl)) (by decide) (fun K hK => ?_)
          have hs29 : w27.cell? ⟨gb451, 0, none⟩ = some (.slice none 0 0) := (blk_cell BK451.out 0).trans rfl
          have hfs29 := blk_frozen BK451.out 0
          have hns29_0 := NB449_451.out
          have hns29_1 := NB450_451.out
          have hms29_0 := NB451_449.out
          have hms29_1 := NB451_450.out
          have hs30 : w27.cell? ⟨gb451, 1, none⟩ = some (.int .i64 0) := (blk_cell BK451.out 1).trans rfl
          have hfs30 := blk_frozen BK451.out 1
          have hns30_0 := NB449_451.out
          have hns30_1 := NB450_451.out
          have hms30_0 := NB451_449.out
          have hms30_1 := NB451_450.out
          refine skip_ (w1 := ?_) (by rfl) rfl ?_ ?_
          rotate_left
          ·
           go_simp
           rfl
          refine hK.out _ _ ⟨((cell_far (p := ⟨gb451, _, none⟩) NB449_451.out _).trans (((cell_far (p := ⟨gb451, _, none⟩) NB449_451.out _).trans (hHeld.1)))), ((cell_far (p := ⟨gb451, _, none⟩) NB449_451.out _).trans (((cell_far (p := ⟨gb451, _, none⟩) NB449_451.out _).trans (hHeld.2.1)))), ((cell_far (p := ⟨gb451, _, none⟩) NB450_451.out _).trans (((cell_far (p := ⟨gb451, _, none⟩) NB450_451.out _).trans (hHeld.2.2.1)))), ((cell_far (p := ⟨gb451, _, none⟩) NB450_451.out _).trans (((cell_far (p := ⟨gb451, _, none⟩) NB450_451.out _).trans (hHeld.2.2.2))))⟩ (fun hHeld => ?_)
          clear hK K
          refine pu_ 18 7 HT_ ?_
          refine done_ (done_of HT_.out (by kernel_rfl)) ?_
          try go_wp2
          refine bodyPost_ret (results_ct rfl _ _ gb451 24 #[.slice Ao28 t455.length co28, .int .i64 t458] (0, 0) _ rfl (bq_ BK451) Try.underlying24 rfl (by kernel_rfl)) rfl ?_
          exact ⟨_, by first | rfl | (simp [errW_none, errW_some] <;> rfl) | (simp only [← hji11]; first | rfl | (simp [errW_none, errW_some] <;> rfl)) | (simp [*, errW_none, errW_some] <;> rfl), by (with_reducible repeat (first | apply Kd.R_alloc | apply Kd.R_drewN | apply Kd.R_drew)); exact Kd.R_mono (Kd.R_far (p := ⟨gb451, 1, none⟩) (Kd.R_far (p := ⟨gb451, 0, none⟩) (Kd.R_types HO457.out BK451.out (by decide)) (fun _ hk => hk.2) (.slice Ao28 t455.length co28)) (fun _ hk => hk.2) (.int .i64 t458)) (fun _ hk => trivial), pb_ HB⟩
         rw [if_neg c14] at H
         exact absurd H (by simp)
        rw [if_neg c13] at H
        exact absurd H (by simp)
       rw [if_neg c12] at H
       exact absurd H (by simp)
      rw [if_neg c10] at H
      exact absurd H (by simp)
     rw [if_neg c9] at H
     exact absurd H (by simp)
    rw [if_neg c8] at H
    exact absurd H (by simp)
   rw [if_neg c7] at H
   exact absurd H (by simp)
  rw [if_neg c6] at H
  exact absurd H (by simp)
 rw [if_neg c5] at H
 have c5b0 : (t453 == 0) = false := beq_eq_false_iff_ne.mpr c5
 have c5b1 : (t453 != 0) = true := bne_iff_ne.mpr c5
 simp only [Option.some.injEq, Prod.mk.injEq] at H
 obtain ⟨rfl, rfl, rfl⟩ := H
 go_enter Try.func27, Try.ntmps27
 go_wp2_with (first | ((with_reducible refine gate_dst (N := 3) rfl ?_); refine bx_ 3 #[.slice A0_0 l0_0.length c0_0, .int .i64 a0_1] 24 ?_; intro gb449 hg w31 hbox hb; have BK449 := Aside0.mk (hbox); have GW449 := gw_ hg HB; have GE449 := gw_ hg HB; replace HB := sb_ HB hb; clear hb hbox hg) | ((with_reducible refine gate_dst (N := 4) rfl ?_); refine bx_ 4 #[.int .i64 a1_0, .int .i64 a1_1] 46 ?_; intro gb450 hg w32 hbox hb; have BK450 := Aside0.mk (hbox); have GW450 := gw_ hg HB; have GE450 := gw_ hg HB; replace HB := sb_ HB hb; have NB449_450 := nl_ hg BK449; have NB450_449 := ng_ hg BK449; replace BK449 := kb_ BK449 hb; clear hb hbox hg) | ((with_reducible refine gate_dst (N := 6) rfl ?_); refine bx_ 6 #[.slice none 0 0, .int .i64 0] 24 ?_; intro gb451 hg w33 hbox hb; have BK451 := Aside0.mk (hbox); have GW451 := gw_ hg HB; have GE451 := gw_ hg HB; replace HB := sb_ HB hb; have NB449_451 := nl_ hg BK449; have NB451_449 := ng_ hg BK449; replace BK449 := kb_ BK449 hb; have NB450_451 := nl_ hg BK450; have NB451_450 := ng_ hg BK450; replace BK450 := kb_ BK450 hb; clear hb hbox hg; have hnb34 := NB449_450.out; have hnc34 := NB450_449.out; have hnb35 := NB449_451.out; have hnc35 := NB451_449.out; have hcz36_0 := cz_ BK449 0 (.slice A0_0 l0_0.length c0_0); have hcz36_1 := cz_ BK449 1 (.int .i64 a0_1); have hfz36_0 := blk_frozen BK449.out 0; have hfz36_1 := blk_frozen BK449.out 1; have hnb37 := NB450_451.out; have hnc37 := NB451_450.out; have hcz38_0 := cz_ BK450 0 (.int .i64 a1_0); have hcz38_1 := cz_ BK450 1 (.int .i64 a1_1); have hfz38_0 := blk_frozen BK450.out 0; have hfz38_1 := blk_frozen BK450.out 1) | ((with_reducible refine gate_callee (f := 49) rfl ?_); refine gl_ 16 Try.func49 #[.agg #[.slice A0_0 l0_0.length c0_0, .int .i64 a0_1], .agg #[.int .i64 a1_0, .int .i64 a1_1], .int .i64 (a2.size : Int)] ?_; (with_reducible refine (segment_bytesAt.calls k _ _ l0_0 a0_1 a1_0 a1_1 (a2.size : Int) t452 t453 _ ?side1 ?side2 A4.out).mono ?_); (case side1 => exact pc_ (Kd.C_below HR0_0.out HB.out)); (case side2 => exact HC0_0.out); rintro e w39 ⟨rfl, hb⟩; refine ⟨_, rfl, ?_⟩; replace BK449 := kb_ BK449 hb; replace BK450 := kb_ BK450 hb; replace BK451 := kb_ BK451 hb; replace HB := sb_ HB hb; (try clear hb); (try clear hb2); (try clear hk); (try clear hi); have hcz40_0 := cz_ BK451 0 (.slice none 0 0); have hcz40_1 := cz_ BK451 1 (.int .i64 0); have hfz40_0 := blk_frozen BK451.out 0; have hfz40_1 := blk_frozen BK451.out 1))
 refine bodyPost_ret (results_ct rfl _ _ gb451 24 #[.slice none 0 0, .int .i64 0] (0, 0) _ rfl (bq_ BK451) Try.underlying24 rfl (by kernel_rfl)) rfl ?_
 exact ⟨_, er_, by first | exact Kd.R_nil _ _ _ _ _ | exact Kd.N_nil _ _ _ _ _ | exact Kd.V_nil _ _ _ _ _ | exact Kd.Q_nil _ _ _ _ _ | exact Kd.S_nil _ _ _ _ _, pb_ HB⟩
end Go.Proofs.Ytoabahlaicgmjaa.X
end
section
namespace Go.Proofs.Ytoabahlaicgmjaa.X
open Go.Proofs.Ytoabahlaicgmjaa.XW
open Go.RowKit Go.Proofs.YtoabahlaicgmjaaW.PrintWords Go.Proofs.YtoabahlaicgmjaaW.PrintLast Go.Proofs.YtoabahlaicgmjaaW.PrintMore
attribute [local go_sem] max2_int min2_int max_two min_two max_three min_three max_four min_four   -- for this text's walks alone
set_option linter.unusedVariables false
set_option linter.unusedSimpArgs false
theorem eqA66 (d : Nat) (w : World) (x0 y0 : Int) (x1 y1 : Int) (x2 y2 : Int) (x3 y3 : Int) (x4 y4 : ByteArray) :
    (Op.equalIn (d + 2) 66 (.agg #[.int .i64 x0, .int .i64 x1, .int .i64 x2, .int .i64 x3, .string x4]) (.agg #[.int .i64 y0, .int .i64 y1, .int .i64 y2, .int .i64 y3, .string y4])).run Try.prog w = .ok (x0 == y0 && (x1 == y1 && (x2 == y2 && (x3 == y3 && (x4.toList == y4.toList))))) w := by
  refine eqA_of Try.underlying66 (by kernel_rfl) ?_
  refine eqf_cons (by rfl) (by go_simp; rfl) (by go_simp; rfl) (by go_simp) ?_
  refine eqf_cons (by rfl) (by go_simp; rfl) (by go_simp; rfl) (by go_simp) ?_
  refine eqf_cons (by rfl) (by go_simp; rfl) (by go_simp; rfl) (by go_simp) ?_
  refine eqf_cons (by rfl) (by go_simp; rfl) (by go_simp; rfl) (by go_simp) ?_
  exact eqf_last (by rfl) (by go_simp; rfl) (by go_simp; rfl) (by go_simp)
end Go.Proofs.Ytoabahlaicgmjaa.X
end
section
namespace Go.Proofs.Ytoabahlaicgmjaa.X
open Go.Proofs.Ytoabahlaicgmjaa.XW Go.Proofs.Ytoabahlaicgmjaa.XS
open Go.RowKit Go.Proofs.YtoabahlaicgmjaaW.PrintWords Go.Proofs.YtoabahlaicgmjaaW.PrintLast Go.Proofs.YtoabahlaicgmjaaW.PrintMore
attribute [local go_sem] max2_int min2_int max_two min_two max_three min_three max_four min_four   -- for this text's walks alone
set_option linter.unusedVariables false
set_option linter.unusedSimpArgs false
attribute [local go_sem high] eqA66
def segment_form.f (a0_0 : Int) (a0_1 : Int) (a0_2 : Int) (a0_3 : Int) (a0_4 : ByteArray) : Option (Int) := if a0_0 = 0 then (if (!(a0_1 == 0) || (!(a0_2 == 0) || (!a0_4.toList.isEmpty))) = true then (some 5) else (some 0)) else (if a0_0 = 1 then (if (!(a0_2 == 0) || (!a0_4.toList.isEmpty)) = true then (some 5) else (some 0)) else (if a0_0 = 2 then (if (!(a0_2 == 0) || (!a0_4.toList.isEmpty)) = true then (some 5) else (some 0)) else (if a0_0 = 3 then (if (!(a0_2 == 0) || (!(a0_3 == 0) || (!a0_4.toList.isEmpty))) = true then (some 5) else (some 0)) else (if a0_0 = 4 then (if (!(a0_3 == 0)) = true then (some 5) else (some 0)) else (some 4)))))
def segment_form.T8 : Bool × List (List Nat × List Nat) := (true, [([], []), ([0], [0]), ([], []), ([2], [2]), ([0, 1], []), ([4, 1, 0, 1], [1, 4]), ([0, 1, 2, 3, 4, 5], []), ([6, 3, 5, 0, 1, 2, 3, 4, 5], [3, 6])])
def segment_form.B8 : List Nat := [0, 1, 0, 4, 3, 19, 63, 127]
theorem segment_form.tab8 : rtab .any (opsOf Try.f60 8) = segment_form.T8 := by kernel_rfl
theorem segment_form.bits8 : waitsOk segment_form.T8.2 segment_form.B8 = true := by kernel_rfl
def segment_form.T12 : Bool × List (List Nat × List Nat) := (true, [([], []), ([0], [0]), ([], []), ([2], [2]), ([], []), ([4], [4]), ([0, 1], []), ([6, 1, 0, 1], [1, 6]), ([0, 1, 2, 3, 6, 7], []), ([8, 3, 7, 0, 1, 2, 3, 6, 7], [3, 8]), ([0, 1, 2, 3, 4, 5, 6, 7, 8, 9], []), ([10, 5, 9, 0, 1, 2, 3, 4, 5, 6, 7, 8, 9], [5, 10])])
def segment_form.B12 : List Nat := [0, 1, 0, 4, 0, 16, 3, 67, 207, 463, 1023, 2047]
theorem segment_form.tab12 : rtab .any (opsOf Try.f60 12) = segment_form.T12 := by kernel_rfl
theorem segment_form.bits12 : waitsOk segment_form.T12.2 segment_form.B12 = true := by kernel_rfl
set_option maxHeartbeats 8000000 in
set_option maxRecDepth 100000 in
theorem segment_form.calls (a0_0 : Int) (a0_1 : Int) (a0_2 : Int) (a0_3 : Int) (a0_4 : ByteArray) (r : Int) (w : World) (h : segment_form.f a0_0 a0_1 a0_2 a0_3 a0_4 = some r) :
  Calls Try.prog 60 #[.agg #[.int .i64 a0_0, .int .i64 a0_1, .int .i64 a0_2, .int .i64 a0_3, .string a0_4]] w fun e w' => e = .returned (.int .i64 r) ∧ Below w.heap.size w w' := by
 have hu66 := Try.underlying66
 have HB := Aside0.mk (Below.refl w.heap.size w)
 have H : (if a0_0 = 0 then (if (!(a0_1 == 0) || (!(a0_2 == 0) || (!a0_4.toList.isEmpty))) = true then (some 5) else (some 0)) else (if a0_0 = 1 then (if (!(a0_2 == 0) || (!a0_4.toList.isEmpty)) = true then (some 5) else (some 0)) else (if a0_0 = 2 then (if (!(a0_2 == 0) || (!a0_4.toList.isEmpty)) = true then (some 5) else (some 0)) else (if a0_0 = 3 then (if (!(a0_2 == 0) || (!(a0_3 == 0) || (!a0_4.toList.isEmpty))) = true then (some 5) else (some 0)) else (if a0_0 = 4 then (if (!(a0_3 == 0)) = true then (some 5) else (some 0)) else (some 4)))))) = some r := h
 clear h
 by_cases c2 : a0_0 = 0
 ·
  rw [if_pos c2] at H
  have c2b0 : (a0_0 == 0) = true := beq_iff_eq.mpr c2
  have c2b1 : (a0_0 != 0) = false := bne_eq_false_iff_eq.mpr c2
  clear c2
  by_cases c3 : (!(a0_1 == 0) || (!(a0_2 == 0) || (!a0_4.toList.isEmpty))) = true
  ·
   rw [if_pos c3] at H
   have c3b0 : (!(a0_1 == 0) || (!(a0_2 == 0) || (!a0_4.toList.isEmpty))) = true := c3
   clear c3
   obtain rfl := Option.some.inj H
   go_enter Try.func60, Try.ntmps60
   go_wp2_with (first | ((with_reducible refine gate_dst (N := 1) rfl ?_); refine bx_ 1 #[.int .i64 a0_0, .int .i64 a0_1, .int .i64 a0_2, .int .i64 a0_3, .string a0_4] 66 ?_; intro gb549 hg w4 hbox hb; have BK549 := Aside0.mk (hbox); have GW549 := gw_ hg HB; have GE549 := gw_ hg HB; replace HB := sb_ HB hb; clear hb hbox hg; have hcz5_0 := cz_ BK549 0 (.int .i64 a0_0); have hcz5_1 := cz_ BK549 1 (.int .i64 a0_1); have hcz5_2 := cz_ BK549 2 (.int .i64 a0_2); have hcz5_3 := cz_ BK549 3 (.int .i64 a0_3); have hcz5_4 := cz_ BK549 4 (.string a0_4); have hfz5_0 := blk_frozen BK549.out 0; have hfz5_1 := blk_frozen BK549.out 1; have hfz5_2 := blk_frozen BK549.out 2; have hfz5_3 := blk_frozen BK549.out 3; have hfz5_4 := blk_frozen BK549.out 4) | ((with_reducible refine gate_dst (N := 3) rfl ?_); refine bx_ 3 #[.int .i64 0, .int .i64 0, .int .i64 0, .int .i64 0, .string (⟨#[]⟩ : ByteArray)] 66 ?_; intro gb550 hg w6 hbox hb; have BK550 := Aside0.mk (hbox); have GW550 := gw_ hg HB; have GE550 := gw_ hg HB; replace HB := sb_ HB hb; have NB549_550 := nl_ hg BK549; have NB550_549 := ng_ hg BK549; replace BK549 := kb_ BK549 hb; clear hb hbox hg; have hnb7 := NB550_549.out; have hnc7 := NB549_550.out; have hcz8_0 := cz_ BK550 0 (.int .i64 0); have hcz8_1 := cz_ BK550 1 (.int .i64 0); have hcz8_2 := cz_ BK550 2 (.int .i64 0); have hcz8_3 := cz_ BK550 3 (.int .i64 0); have hcz8_4 := cz_ BK550 4 (.string (⟨#[]⟩ : ByteArray)); have hfz8_0 := blk_frozen BK550.out 0; have hfz8_1 := blk_frozen BK550.out 1; have hfz8_2 := blk_frozen BK550.out 2; have hfz8_3 := blk_frozen BK550.out 3; have hfz8_4 := blk_frozen BK550.out 4) | ((with_reducible refine gate_store (t := 66) (p := 3) rfl ?_); refine store_event (t := 66) (p := 3) (v := ?vo_w9) (w1 := (((((w6.setCell ⟨gb550, 0, none⟩ (.int .i64 a0_0)).setCell ⟨gb550, 1, none⟩ (.int .i64 0)).setCell ⟨gb550, 2, none⟩ (.int .i64 0)).setCell ⟨gb550, 3, none⟩ (.int .i64 0)).setCell ⟨gb550, 4, none⟩ (.string (⟨#[]⟩ : ByteArray)))) ?hg ?ho ?hn ?hr ?_; (case ho => rfl); (case hg => rfl); (case hn => rfl); (case hr => first | (go_simp; done) | (go_simp; rfl)); intro w9 hw; have n0_ : Aside0 (w9.heap[gb549]? = some (.cells #[.int .i64 a0_0, .int .i64 a0_1, .int .i64 a0_2, .int .i64 a0_3, .string a0_4] 66 (0, 0))) := ⟨(by rw [hw]; exact (by (with_reducible repeat (first | refine blk_drewN ?_ _ | refine blk_drew ?_ | refine blk_alloc ?_ _)); refine blk_far ?_ NB549_550.out _; (with_reducible repeat (first | refine blk_drewN ?_ _ | refine blk_drew ?_ | refine blk_alloc ?_ _)); refine blk_far ?_ NB549_550.out _; (with_reducible repeat (first | refine blk_drewN ?_ _ | refine blk_drew ?_ | refine blk_alloc ?_ _)); refine blk_far ?_ NB549_550.out _; (with_reducible repeat (first | refine blk_drewN ?_ _ | refine blk_drew ?_ | refine blk_alloc ?_ _)); refine blk_far ?_ NB549_550.out _; (with_reducible repeat (first | refine blk_drewN ?_ _ | refine blk_drew ?_ | refine blk_alloc ?_ _)); refine blk_far ?_ NB549_550.out _; (with_reducible repeat (first | refine blk_drewN ?_ _ | refine blk_drew ?_ | refine blk_alloc ?_ _)); exact BK549.out))⟩; have n1_ : Aside0 (w9.heap[gb550]? = some (.cells #[.int .i64 a0_0, .int .i64 0, .int .i64 0, .int .i64 0, .string (⟨#[]⟩ : ByteArray)] 66 (0, 0))) := ⟨(by rw [hw]; exact (bq_ BK550))⟩; have n2_ : Aside0 (Below w.heap.size w w9) := ⟨(by rw [hw]; exact (pb_ HB))⟩; clear hw; clear BK549; clear BK550; clear HB; have BK549 := n0_; have BK550 := n1_; have HB := n2_; clear n0_ n1_ n2_; have hcz10_0 := cz_ BK549 0 (.int .i64 a0_0); have hcz10_1 := cz_ BK549 1 (.int .i64 a0_1); have hcz10_2 := cz_ BK549 2 (.int .i64 a0_2); have hcz10_3 := cz_ BK549 3 (.int .i64 a0_3); have hcz10_4 := cz_ BK549 4 (.string a0_4); have hfz10_0 := blk_frozen BK549.out 0; have hfz10_1 := blk_frozen BK549.out 1; have hfz10_2 := blk_frozen BK549.out 2; have hfz10_3 := blk_frozen BK549.out 3; have hfz10_4 := blk_frozen BK549.out 4; have hcz11_0 := cz_ BK550 0 (.int .i64 a0_0); have hcz11_1 := cz_ BK550 1 (.int .i64 0); have hcz11_2 := cz_ BK550 2 (.int .i64 0); have hcz11_3 := cz_ BK550 3 (.int .i64 0); have hcz11_4 := cz_ BK550 4 (.string (⟨#[]⟩ : ByteArray)); have hfz11_0 := blk_frozen BK550.out 0; have hfz11_1 := blk_frozen BK550.out 1; have hfz11_2 := blk_frozen BK550.out 2; have hfz11_3 := blk_frozen BK550.out 3; have hfz11_4 := blk_frozen BK550.out 4))
   go_ret
   exact ⟨er_, pb_ HB⟩
  rw [if_neg c3] at H
  have c3b0 : (!(a0_1 == 0) || (!(a0_2 == 0) || (!a0_4.toList.isEmpty))) = false := by simpa using c3
  clear c3
  obtain rfl := Option.some.inj H
  go_enter Try.func60, Try.ntmps60
  go_wp2_with (first | ((with_reducible refine gate_dst (N := 1) rfl ?_); refine bx_ 1 #[.int .i64 a0_0, .int .i64 a0_1, .int .i64 a0_2, .int .i64 a0_3, .string a0_4] 66 ?_; intro gb549 hg w12 hbox hb; have BK549 := Aside0.mk (hbox); have GW549 := gw_ hg HB; have GE549 := gw_ hg HB; replace HB := sb_ HB hb; clear hb hbox hg; have hcz13_0 := cz_ BK549 0 (.int .i64 a0_0); have hcz13_1 := cz_ BK549 1 (.int .i64 a0_1); have hcz13_2 := cz_ BK549 2 (.int .i64 a0_2); have hcz13_3 := cz_ BK549 3 (.int .i64 a0_3); have hcz13_4 := cz_ BK549 4 (.string a0_4); have hfz13_0 := blk_frozen BK549.out 0; have hfz13_1 := blk_frozen BK549.out 1; have hfz13_2 := blk_frozen BK549.out 2; have hfz13_3 := blk_frozen BK549.out 3; have hfz13_4 := blk_frozen BK549.out 4) | ((with_reducible refine gate_dst (N := 3) rfl ?_); refine bx_ 3 #[.int .i64 0, .int .i64 0, .int .i64 0, .int .i64 0, .string (⟨#[]⟩ : ByteArray)] 66 ?_; intro gb550 hg w14 hbox hb; have BK550 := Aside0.mk (hbox); have GW550 := gw_ hg HB; have GE550 := gw_ hg HB; replace HB := sb_ HB hb; have NB549_550 := nl_ hg BK549; have NB550_549 := ng_ hg BK549; replace BK549 := kb_ BK549 hb; clear hb hbox hg; have hnb15 := NB550_549.out; have hnc15 := NB549_550.out; have hcz16_0 := cz_ BK550 0 (.int .i64 0); have hcz16_1 := cz_ BK550 1 (.int .i64 0); have hcz16_2 := cz_ BK550 2 (.int .i64 0); have hcz16_3 := cz_ BK550 3 (.int .i64 0); have hcz16_4 := cz_ BK550 4 (.string (⟨#[]⟩ : ByteArray)); have hfz16_0 := blk_frozen BK550.out 0; have hfz16_1 := blk_frozen BK550.out 1; have hfz16_2 := blk_frozen BK550.out 2; have hfz16_3 := blk_frozen BK550.out 3; have hfz16_4 := blk_frozen BK550.out 4) | ((with_reducible refine gate_store (t := 66) (p := 3) rfl ?_); refine store_event (t := 66) (p := 3) (v := ?vo_w17) (w1 := (((((w14.setCell ⟨gb550, 0, none⟩ (.int .i64 a0_0)).setCell ⟨gb550, 1, none⟩ (.int .i64 0)).setCell ⟨gb550, 2, none⟩ (.int .i64 0)).setCell ⟨gb550, 3, none⟩ (.int .i64 0)).setCell ⟨gb550, 4, none⟩ (.string (⟨#[]⟩ : ByteArray)))) ?hg ?ho ?hn ?hr ?_; (case ho => rfl); (case hg => rfl); (case hn => rfl); (case hr => first | (go_simp; done) | (go_simp; rfl)); intro w17 hw; have n0_ : Aside0 (w17.heap[gb549]? = some (.cells #[.int .i64 a0_0, .int .i64 a0_1, .int .i64 a0_2, .int .i64 a0_3, .string a0_4] 66 (0, 0))) := ⟨(by rw [hw]; exact (by (with_reducible repeat (first | refine blk_drewN ?_ _ | refine blk_drew ?_ | refine blk_alloc ?_ _)); refine blk_far ?_ NB549_550.out _; (with_reducible repeat (first | refine blk_drewN ?_ _ | refine blk_drew ?_ | refine blk_alloc ?_ _)); refine blk_far ?_ NB549_550.out _; (with_reducible repeat (first | refine blk_drewN ?_ _ | refine blk_drew ?_ | refine blk_alloc ?_ _)); refine blk_far ?_ NB549_550.out _; (with_reducible repeat (first | refine blk_drewN ?_ _ | refine blk_drew ?_ | refine blk_alloc ?_ _)); refine blk_far ?_ NB549_550.out _; (with_reducible repeat (first | refine blk_drewN ?_ _ | refine blk_drew ?_ | refine blk_alloc ?_ _)); refine blk_far ?_ NB549_550.out _; (with_reducible repeat (first | refine blk_drewN ?_ _ | refine blk_drew ?_ | refine blk_alloc ?_ _)); exact BK549.out))⟩; have n1_ : Aside0 (w17.heap[gb550]? = some (.cells #[.int .i64 a0_0, .int .i64 0, .int .i64 0, .int .i64 0, .string (⟨#[]⟩ : ByteArray)] 66 (0, 0))) := ⟨(by rw [hw]; exact (bq_ BK550))⟩; have n2_ : Aside0 (Below w.heap.size w w17) := ⟨(by rw [hw]; exact (pb_ HB))⟩; clear hw; clear BK549; clear BK550; clear HB; have BK549 := n0_; have BK550 := n1_; have HB := n2_; clear n0_ n1_ n2_; have hcz18_0 := cz_ BK549 0 (.int .i64 a0_0); have hcz18_1 := cz_ BK549 1 (.int .i64 a0_1); have hcz18_2 := cz_ BK549 2 (.int .i64 a0_2); have hcz18_3 := cz_ BK549 3 (.int .i64 a0_3); have hcz18_4 := cz_ BK549 4 (.string a0_4); have hfz18_0 := blk_frozen BK549.out 0; have hfz18_1 := blk_frozen BK549.out 1; have hfz18_2 := blk_frozen BK549.out 2; have hfz18_3 := blk_frozen BK549.out 3; have hfz18_4 := blk_frozen BK549.out 4; have hcz19_0 := cz_ BK550 0 (.int .i64 a0_0); have hcz19_1 := cz_ BK550 1 (.int .i64 0); have hcz19_2 := cz_ BK550 2 (.int .i64 0); have hcz19_3 := cz_ BK550 3 (.int .i64 0); have hcz19_4 := cz_ BK550 4 (.string (⟨#[]⟩ : ByteArray)); have hfz19_0 := blk_frozen BK550.out 0; have hfz19_1 := blk_frozen BK550.out 1; have hfz19_2 := blk_frozen BK550.out 2; have hfz19_3 := blk_frozen BK550.out 3; have hfz19_4 := blk_frozen BK550.out 4))
  go_ret
  exact ⟨er_, pb_ HB⟩
 rw [if_neg c2] at H
 have c2b0 : (a0_0 == 0) = false := beq_eq_false_iff_ne.mpr c2
 have c2b1 : (a0_0 != 0) = true := bne_iff_ne.mpr c2
 by_cases c20 : a0_0 = 1
 ·
  rw [if_pos c20] at H
  have c20b0 : (a0_0 == 1) = true := beq_iff_eq.mpr c20
  have c20b1 : (a0_0 != 1) = false := bne_eq_false_iff_eq.mpr c20
  clear c20
  by_cases c21 : (!(a0_2 == 0) || (!a0_4.toList.isEmpty)) = true
  ·
   rw [if_pos c21] at H
   have c21b0 : (!(a0_2 == 0) || (!a0_4.toList.isEmpty)) = true := c21
   clear c21
   obtain rfl := Option.some.inj H
   go_enter Try.func60, Try.ntmps60
   try go_wp2_with (first | ((with_reducible refine gate_dst (N := 1) rfl ?_); refine bx_ 1 #[.int .i64 a0_0, .int .i64 a0_1, .int .i64 a0_2, .int .i64 a0_3, .string a0_4] 66 ?_; intro gb549 hg w22 hbox hb; have BK549 := Aside0.mk (hbox); have GW549 := gw_ hg HB; have GE549 := gw_ hg HB; replace HB := sb_ HB hb; clear hb hbox hg; have hcz23_0 := cz_ BK549 0 (.int .i64 a0_0); have hcz23_1 := cz_ BK549 1 (.int .i64 a0_1); have hcz23_2 := cz_ BK549 2 (.int .i64 a0_2); have hcz23_3 := cz_ BK549 3 (.int .i64 a0_3); have hcz23_4 := cz_ BK549 4 (.string a0_4); have hfz23_0 := blk_frozen BK549.out 0; have hfz23_1 := blk_frozen BK549.out 1; have hfz23_2 := blk_frozen BK549.out 2; have hfz23_3 := blk_frozen BK549.out 3; have hfz23_4 := blk_frozen BK549.out 4) | ((with_reducible refine gate_dst (N := 3) rfl ?_); refine bx_ 3 #[.int .i64 0, .int .i64 0, .int .i64 0, .int .i64 0, .string (⟨#[]⟩ : ByteArray)] 66 ?_; intro gb550 hg w24 hbox hb; have BK550 := Aside0.mk (hbox); have GW550 := gw_ hg HB; have GE550 := gw_ hg HB; replace HB := sb_ HB hb; have NB549_550 := nl_ hg BK549; have NB550_549 := ng_ hg BK549; replace BK549 := kb_ BK549 hb; clear hb hbox hg; have hnb25 := NB550_549.out; have hnc25 := NB549_550.out; have hcz26_0 := cz_ BK550 0 (.int .i64 0); have hcz26_1 := cz_ BK550 1 (.int .i64 0); have hcz26_2 := cz_ BK550 2 (.int .i64 0); have hcz26_3 := cz_ BK550 3 (.int .i64 0); have hcz26_4 := cz_ BK550 4 (.string (⟨#[]⟩ : ByteArray)); have hfz26_0 := blk_frozen BK550.out 0; have hfz26_1 := blk_frozen BK550.out 1; have hfz26_2 := blk_frozen BK550.out 2; have hfz26_3 := blk_frozen BK550.out 3; have hfz26_4 := blk_frozen BK550.out 4; have hcz27_0 := cz_ BK549 0 (.int .i64 a0_0); have hcz27_1 := cz_ BK549 1 (.int .i64 a0_1); have hcz27_2 := cz_ BK549 2 (.int .i64 a0_2); have hcz27_3 := cz_ BK549 3 (.int .i64 a0_3); have hcz27_4 := cz_ BK549 4 (.string a0_4); have hfz27_0 := blk_frozen BK549.out 0; have hfz27_1 := blk_frozen BK549.out 1; have hfz27_2 := blk_frozen BK549.out 2; have hfz27_3 := blk_frozen BK549.out 3; have hfz27_4 := blk_frozen BK549.out 4))
   have n0_ : Aside0 ((((((w24.setCell ⟨gb550, 0, none⟩ (.int .i64 a0_0)).setCell ⟨gb550, 1, none⟩ (.int .i64 0)).setCell ⟨gb550, 2, none⟩ (.int .i64 0)).setCell ⟨gb550, 3, none⟩ (.int .i64 0)).setCell ⟨gb550, 4, none⟩ (.string (⟨#[]⟩ : ByteArray))).heap[gb549]? = some (.cells #[.int .i64 a0_0, .int .i64 a0_1, .int .i64 a0_2, .int .i64 a0_3, .string a0_4] 66 (0, 0))) := ⟨by (with_reducible repeat (first | refine blk_drewN ?_ _ | refine blk_drew ?_ | refine blk_alloc ?_ _)); refine blk_far ?_ NB549_550.out _; (with_reducible repeat (first | refine blk_drewN ?_ _ | refine blk_drew ?_ | refine blk_alloc ?_ _)); refine blk_far ?_ NB549_550.out _; (with_reducible repeat (first | refine blk_drewN ?_ _ | refine blk_drew ?_ | refine blk_alloc ?_ _)); refine blk_far ?_ NB549_550.out _; (with_reducible repeat (first | refine blk_drewN ?_ _ | refine blk_drew ?_ | refine blk_alloc ?_ _)); refine blk_far ?_ NB549_550.out _; (with_reducible repeat (first | refine blk_drewN ?_ _ | refine blk_drew ?_ | refine blk_alloc ?_ _)); refine blk_far ?_ NB549_550.out _; (with_reducible repeat (first | refine blk_drewN ?_ _ | refine blk_drew ?_ | refine blk_alloc ?_ _)); exact BK549.out⟩
   have n1_ : Aside0 ((((((w24.setCell ⟨gb550, 0, none⟩ (.int .i64 a0_0)).setCell ⟨gb550, 1, none⟩ (.int .i64 0)).setCell ⟨gb550, 2, none⟩ (.int .i64 0)).setCell ⟨gb550, 3, none⟩ (.int .i64 0)).setCell ⟨gb550, 4, none⟩ (.string (⟨#[]⟩ : ByteArray))).heap[gb550]? = some (.cells #[.int .i64 a0_0, .int .i64 0, .int .i64 0, .int .i64 0, .string (⟨#[]⟩ : ByteArray)] 66 (0, 0))) := ⟨bq_ BK550⟩
   have n2_ : Aside0 (Below w.heap.size w (((((w24.setCell ⟨gb550, 0, none⟩ (.int .i64 a0_0)).setCell ⟨gb550, 1, none⟩ (.int .i64 0)).setCell ⟨gb550, 2, none⟩ (.int .i64 0)).setCell ⟨gb550, 3, none⟩ (.int .i64 0)).setCell ⟨gb550, 4, none⟩ (.string (⟨#[]⟩ : ByteArray)))) := ⟨pb_ HB⟩
   (try clear BK549)
   (try clear BK550)
   (try clear HB)
   generalize (((((w24.setCell ⟨gb550, 0, none⟩ (.int .i64 a0_0)).setCell ⟨gb550, 1, none⟩ (.int .i64 0)).setCell ⟨gb550, 2, none⟩ (.int .i64 0)).setCell ⟨gb550, 3, none⟩ (.int .i64 0)).setCell ⟨gb550, 4, none⟩ (.string (⟨#[]⟩ : ByteArray))) = w28 at n0_ n1_ n2_ ⊢
   have BK549 := n0_
   have BK550 := n1_
   have HB := n2_
   clear n0_ n1_ n2_
   replace BK549 := Aside0.mk (blk_drew BK549.out)
   replace BK550 := Aside0.mk (blk_drew BK550.out)
   replace HB := Aside0.mk (below_drew1 HB.out)
   refine start_ (n := 8) (S := fun w' => w'.cell? ⟨gb549, 0, none⟩ = some (.int .i64 a0_0) ∧ w'.cell? ⟨gb549, 1, none⟩ = some (.int .i64 a0_1) ∧ w'.cell? ⟨gb549, 2, none⟩ = some (.int .i64 a0_2) ∧ w'.cell? ⟨gb549, 3, none⟩ = some (.int .i64 a0_3) ∧ w'.cell? ⟨gb549, 4, none⟩ = some (.string a0_4)) (ds := []) #[false, false, false, false, false, false, false, false] (by kernel_rfl) rfl rfl ⟨cy_ BK549 0, cy_ BK549 1, cy_ BK549 2, cy_ BK549 3, cy_ BK549 4⟩ (fun hHeld => ?_); refine with_tabW segment_form.tab8 segment_form.bits8 (fun HT_ HW_ => ?_)
   generalize w28.drew = w29 at BK549 BK550 HB hHeld ⊢
   refine pu_ 0 17 HT_ ?_
   refine pu_ 2 19 HT_ ?_
   refine tk_ 1 18 HT_ HW_ hHeld rfl (Or.inl ⟨by rfl, by rintro w' ⟨s0, s1, s2, s3, s4⟩; go_simp; with_reducible rfl⟩) ?_
   refine pu_ 4 21 HT_ ?_
   refine tk_ 3 20 HT_ HW_ hHeld rfl (Or.inl ⟨by rfl, by rintro w' ⟨s0, s1, s2, s3, s4⟩; go_simp; with_reducible rfl⟩) ?_
   refine one_ (i := 5) (N := none) #[true, true, true, true, true, true, false, false] rfl rfl (one_of HT_.out (by kernel_rfl)) (by decide) (fun K hK => ?_)
   have hs30 : w29.cell? ⟨gb550, 1, none⟩ = some (.int .i64 0) := (blk_cell BK550.out 1).trans rfl
   have hfs30 := blk_frozen BK550.out 1
   have hns30_0 := NB549_550.out
   have hms30_0 := NB550_549.out
   refine skip_ (w1 := ?_) (by rfl) rfl ?_ ?_
   rotate_left
   ·
    go_simp
    rfl
   refine hK.out _ _ ⟨((cell_far (p := ⟨gb550, _, none⟩) NB549_550.out _).trans (hHeld.1)), ((cell_far (p := ⟨gb550, _, none⟩) NB549_550.out _).trans (hHeld.2.1)), ((cell_far (p := ⟨gb550, _, none⟩) NB549_550.out _).trans (hHeld.2.2.1)), ((cell_far (p := ⟨gb550, _, none⟩) NB549_550.out _).trans (hHeld.2.2.2.1)), ((cell_far (p := ⟨gb550, _, none⟩) NB549_550.out _).trans (hHeld.2.2.2.2))⟩ (fun hHeld => ?_)
   clear hK K
   refine pu_ 6 22 HT_ ?_
   refine one_ (i := 7) (N := none) #[true, true, true, true, true, true, true, true] rfl rfl (one_of HT_.out (by kernel_rfl)) (by decide) (fun K hK => ?_)
   have hs31 : w29.cell? ⟨gb550, 3, none⟩ = some (.int .i64 0) := (blk_cell BK550.out 3).trans rfl
   have hfs31 := blk_frozen BK550.out 3
   have hns31_0 := NB549_550.out
   have hms31_0 := NB550_549.out
   refine skip_ (w1 := ?_) (by rfl) rfl ?_ ?_
   rotate_left
   ·
    go_simp
    rfl
   refine hK.out _ _ ⟨((cell_far (p := ⟨gb550, _, none⟩) NB549_550.out _).trans (hHeld.1)), ((cell_far (p := ⟨gb550, _, none⟩) NB549_550.out _).trans (hHeld.2.1)), ((cell_far (p := ⟨gb550, _, none⟩) NB549_550.out _).trans (hHeld.2.2.1)), ((cell_far (p := ⟨gb550, _, none⟩) NB549_550.out _).trans (hHeld.2.2.2.1)), ((cell_far (p := ⟨gb550, _, none⟩) NB549_550.out _).trans (hHeld.2.2.2.2))⟩ (fun hHeld => ?_)
   clear hK K
   refine done_ (done_of HT_.out (by kernel_rfl)) ?_
   have hcz32_0 := cz_ BK549 0 (.int .i64 a0_0)
   have hcz32_1 := cz_ BK549 1 (.int .i64 a0_1)
   have hcz32_2 := cz_ BK549 2 (.int .i64 a0_2)
   have hcz32_3 := cz_ BK549 3 (.int .i64 a0_3)
   have hcz32_4 := cz_ BK549 4 (.string a0_4)
   have hfz32_0 := blk_frozen BK549.out 0
   have hfz32_1 := blk_frozen BK549.out 1
   have hfz32_2 := blk_frozen BK549.out 2
   have hfz32_3 := blk_frozen BK549.out 3
   have hfz32_4 := blk_frozen BK549.out 4
   have hcz33_0 := cz_ BK550 0 (.int .i64 a0_0)
   have hcz33_1 := cz_ BK550 1 (.int .i64 0)
   have hcz33_2 := cz_ BK550 2 (.int .i64 0)
   have hcz33_3 := cz_ BK550 3 (.int .i64 0)
   have hcz33_4 := cz_ BK550 4 (.string (⟨#[]⟩ : ByteArray))
   have hfz33_0 := blk_frozen BK550.out 0
   have hfz33_1 := blk_frozen BK550.out 1
   have hfz33_2 := blk_frozen BK550.out 2
   have hfz33_3 := blk_frozen BK550.out 3
   have hfz33_4 := blk_frozen BK550.out 4
   try go_wp2
   go_ret
   exact ⟨er_, pb_ HB⟩
  rw [if_neg c21] at H
  have c21b0 : (!(a0_2 == 0) || (!a0_4.toList.isEmpty)) = false := by simpa using c21
  clear c21
  obtain rfl := Option.some.inj H
  go_enter Try.func60, Try.ntmps60
  try go_wp2_with (first | ((with_reducible refine gate_dst (N := 1) rfl ?_); refine bx_ 1 #[.int .i64 a0_0, .int .i64 a0_1, .int .i64 a0_2, .int .i64 a0_3, .string a0_4] 66 ?_; intro gb549 hg w34 hbox hb; have BK549 := Aside0.mk (hbox); have GW549 := gw_ hg HB; have GE549 := gw_ hg HB; replace HB := sb_ HB hb; clear hb hbox hg; have hcz35_0 := cz_ BK549 0 (.int .i64 a0_0); have hcz35_1 := cz_ BK549 1 (.int .i64 a0_1); have hcz35_2 := cz_ BK549 2 (.int .i64 a0_2); have hcz35_3 := cz_ BK549 3 (.int .i64 a0_3); have hcz35_4 := cz_ BK549 4 (.string a0_4); have hfz35_0 := blk_frozen BK549.out 0; have hfz35_1 := blk_frozen BK549.out 1; have hfz35_2 := blk_frozen BK549.out 2; have hfz35_3 := blk_frozen BK549.out 3; have hfz35_4 := blk_frozen BK549.out 4) | ((with_reducible refine gate_dst (N := 3) rfl ?_); refine bx_ 3 #[.int .i64 0, .int .i64 0, .int .i64 0, .int .i64 0, .string (⟨#[]⟩ : ByteArray)] 66 ?_; intro gb550 hg w36 hbox hb; have BK550 := Aside0.mk (hbox); have GW550 := gw_ hg HB; have GE550 := gw_ hg HB; replace HB := sb_ HB hb; have NB549_550 := nl_ hg BK549; have NB550_549 := ng_ hg BK549; replace BK549 := kb_ BK549 hb; clear hb hbox hg; have hnb37 := NB550_549.out; have hnc37 := NB549_550.out; have hcz38_0 := cz_ BK550 0 (.int .i64 0); have hcz38_1 := cz_ BK550 1 (.int .i64 0); have hcz38_2 := cz_ BK550 2 (.int .i64 0); have hcz38_3 := cz_ BK550 3 (.int .i64 0); have hcz38_4 := cz_ BK550 4 (.string (⟨#[]⟩ : ByteArray)); have hfz38_0 := blk_frozen BK550.out 0; have hfz38_1 := blk_frozen BK550.out 1; have hfz38_2 := blk_frozen BK550.out 2; have hfz38_3 := blk_frozen BK550.out 3; have hfz38_4 := blk_frozen BK550.out 4; have hcz39_0 := cz_ BK549 0 (.int .i64 a0_0); have hcz39_1 := cz_ BK549 1 (.int .i64 a0_1); have hcz39_2 := cz_ BK549 2 (.int .i64 a0_2); have hcz39_3 := cz_ BK549 3 (.int .i64 a0_3); have hcz39_4 := cz_ BK549 4 (.string a0_4); have hfz39_0 := blk_frozen BK549.out 0; have hfz39_1 := blk_frozen BK549.out 1; have hfz39_2 := blk_frozen BK549.out 2; have hfz39_3 := blk_frozen BK549.out 3; have hfz39_4 := blk_frozen BK549.out 4))
  have n0_ : Aside0 ((((((w36.setCell ⟨gb550, 0, none⟩ (.int .i64 a0_0)).setCell ⟨gb550, 1, none⟩ (.int .i64 0)).setCell ⟨gb550, 2, none⟩ (.int .i64 0)).setCell ⟨gb550, 3, none⟩ (.int .i64 0)).setCell ⟨gb550, 4, none⟩ (.string (⟨#[]⟩ : ByteArray))).heap[gb549]? = some (.cells #[.int .i64 a0_0, .int .i64 a0_1, .int .i64 a0_2, .int .i64 a0_3, .string a0_4] 66 (0, 0))) := ⟨by (with_reducible repeat (first | refine blk_drewN ?_ _ | refine blk_drew ?_ | refine blk_alloc ?_ _)); refine blk_far ?_ NB549_550.out _; (with_reducible repeat (first | refine blk_drewN ?_ _ | refine blk_drew ?_ | refine blk_alloc ?_ _)); refine blk_far ?_ NB549_550.out _; (with_reducible repeat (first | refine blk_drewN ?_ _ | refine blk_drew ?_ | refine blk_alloc ?_ _)); refine blk_far ?_ NB549_550.out _; (with_reducible repeat (first | refine blk_drewN ?_ _ | refine blk_drew ?_ | refine blk_alloc ?_ _)); refine blk_far ?_ NB549_550.out _; (with_reducible repeat (first | refine blk_drewN ?_ _ | refine blk_drew ?_ | refine blk_alloc ?_ _)); refine blk_far ?_ NB549_550.out _; (with_reducible repeat (first | refine blk_drewN ?_ _ | refine blk_drew ?_ | refine blk_alloc ?_ _)); exact BK549.out⟩
  have n1_ : Aside0 ((((((w36.setCell ⟨gb550, 0, none⟩ (.int .i64 a0_0)).setCell ⟨gb550, 1, none⟩ (.int .i64 0)).setCell ⟨gb550, 2, none⟩ (.int .i64 0)).setCell ⟨gb550, 3, none⟩ (.int .i64 0)).setCell ⟨gb550, 4, none⟩ (.string (⟨#[]⟩ : ByteArray))).heap[gb550]? = some (.cells #[.int .i64 a0_0, .int .i64 0, .int .i64 0, .int .i64 0, .string (⟨#[]⟩ : ByteArray)] 66 (0, 0))) := ⟨bq_ BK550⟩
  have n2_ : Aside0 (Below w.heap.size w (((((w36.setCell ⟨gb550, 0, none⟩ (.int .i64 a0_0)).setCell ⟨gb550, 1, none⟩ (.int .i64 0)).setCell ⟨gb550, 2, none⟩ (.int .i64 0)).setCell ⟨gb550, 3, none⟩ (.int .i64 0)).setCell ⟨gb550, 4, none⟩ (.string (⟨#[]⟩ : ByteArray)))) := ⟨pb_ HB⟩
  (try clear BK549)
  (try clear BK550)
  (try clear HB)
  generalize (((((w36.setCell ⟨gb550, 0, none⟩ (.int .i64 a0_0)).setCell ⟨gb550, 1, none⟩ (.int .i64 0)).setCell ⟨gb550, 2, none⟩ (.int .i64 0)).setCell ⟨gb550, 3, none⟩ (.int .i64 0)).setCell ⟨gb550, 4, none⟩ (.string (⟨#[]⟩ : ByteArray))) = w40 at n0_ n1_ n2_ ⊢
  have BK549 := n0_
  have BK550 := n1_
  have HB := n2_
  clear n0_ n1_ n2_
  replace BK549 := Aside0.mk (blk_drew BK549.out)
  replace BK550 := Aside0.mk (blk_drew BK550.out)
  replace HB := Aside0.mk (below_drew1 HB.out)
  refine start_ (n := 8) (S := fun w' => w'.cell? ⟨gb549, 0, none⟩ = some (.int .i64 a0_0) ∧ w'.cell? ⟨gb549, 1, none⟩ = some (.int .i64 a0_1) ∧ w'.cell? ⟨gb549, 2, none⟩ = some (.int .i64 a0_2) ∧ w'.cell? ⟨gb549, 3, none⟩ = some (.int .i64 a0_3) ∧ w'.cell? ⟨gb549, 4, none⟩ = some (.string a0_4)) (ds := []) #[false, false, false, false, false, false, false, false] (by kernel_rfl) rfl rfl ⟨cy_ BK549 0, cy_ BK549 1, cy_ BK549 2, cy_ BK549 3, cy_ BK549 4⟩ (fun hHeld => ?_); refine with_tabW segment_form.tab8 segment_form.bits8 (fun HT_ HW_ => ?_)
  generalize w40.drew = w41 at BK549 BK550 HB hHeld ⊢
  refine pu_ 0 17 HT_ ?_
  refine pu_ 2 19 HT_ ?_
  refine tk_ 1 18 HT_ HW_ hHeld rfl (Or.inl ⟨by rfl, by rintro w' ⟨s0, s1, s2, s3, s4⟩; go_simp; with_reducible rfl⟩) ?_
  refine pu_ 4 21 HT_ ?_
  refine tk_ 3 20 HT_ HW_ hHeld rfl (Or.inl ⟨by rfl, by rintro w' ⟨s0, s1, s2, s3, s4⟩; go_simp; with_reducible rfl⟩) ?_
  refine one_ (i := 5) (N := none) #[true, true, true, true, true, true, false, false] rfl rfl (one_of HT_.out (by kernel_rfl)) (by decide) (fun K hK => ?_)
  have hs42 : w41.cell? ⟨gb550, 1, none⟩ = some (.int .i64 0) := (blk_cell BK550.out 1).trans rfl
  have hfs42 := blk_frozen BK550.out 1
  have hns42_0 := NB549_550.out
  have hms42_0 := NB550_549.out
  refine skip_ (w1 := ?_) (by rfl) rfl ?_ ?_
  rotate_left
  ·
   go_simp
   rfl
  refine hK.out _ _ ⟨((cell_far (p := ⟨gb550, _, none⟩) NB549_550.out _).trans (hHeld.1)), ((cell_far (p := ⟨gb550, _, none⟩) NB549_550.out _).trans (hHeld.2.1)), ((cell_far (p := ⟨gb550, _, none⟩) NB549_550.out _).trans (hHeld.2.2.1)), ((cell_far (p := ⟨gb550, _, none⟩) NB549_550.out _).trans (hHeld.2.2.2.1)), ((cell_far (p := ⟨gb550, _, none⟩) NB549_550.out _).trans (hHeld.2.2.2.2))⟩ (fun hHeld => ?_)
  clear hK K
  refine pu_ 6 22 HT_ ?_
  refine one_ (i := 7) (N := none) #[true, true, true, true, true, true, true, true] rfl rfl (one_of HT_.out (by kernel_rfl)) (by decide) (fun K hK => ?_)
  have hs43 : w41.cell? ⟨gb550, 3, none⟩ = some (.int .i64 0) := (blk_cell BK550.out 3).trans rfl
  have hfs43 := blk_frozen BK550.out 3
  have hns43_0 := NB549_550.out
  have hms43_0 := NB550_549.out
  refine skip_ (w1 := ?_) (by rfl) rfl ?_ ?_
  rotate_left
  ·
   go_simp
   rfl
  refine hK.out _ _ ⟨((cell_far (p := ⟨gb550, _, none⟩) NB549_550.out _).trans (hHeld.1)), ((cell_far (p := ⟨gb550, _, none⟩) NB549_550.out _).trans (hHeld.2.1)), ((cell_far (p := ⟨gb550, _, none⟩) NB549_550.out _).trans (hHeld.2.2.1)), ((cell_far (p := ⟨gb550, _, none⟩) NB549_550.out _).trans (hHeld.2.2.2.1)), ((cell_far (p := ⟨gb550, _, none⟩) NB549_550.out _).trans (hHeld.2.2.2.2))⟩ (fun hHeld => ?_)
  clear hK K
  refine done_ (done_of HT_.out (by kernel_rfl)) ?_
  have hcz44_0 := cz_ BK549 0 (.int .i64 a0_0)
  have hcz44_1 := cz_ BK549 1 (.int .i64 a0_1)
  have hcz44_2 := cz_ BK549 2 (.int .i64 a0_2)
  have hcz44_3 := cz_ BK549 3 (.int .i64 a0_3)
  have hcz44_4 := cz_ BK549 4 (.string a0_4)
  have hfz44_0 := blk_frozen BK549.out 0
  have hfz44_1 := blk_frozen BK549.out 1
  have hfz44_2 := blk_frozen BK549.out 2
  have hfz44_3 := blk_frozen BK549.out 3
  have hfz44_4 := blk_frozen BK549.out 4
  have hcz45_0 := cz_ BK550 0 (.int .i64 a0_0)
  have hcz45_1 := cz_ BK550 1 (.int .i64 0)
  have hcz45_2 := cz_ BK550 2 (.int .i64 0)
  have hcz45_3 := cz_ BK550 3 (.int .i64 0)
  have hcz45_4 := cz_ BK550 4 (.string (⟨#[]⟩ : ByteArray))
  have hfz45_0 := blk_frozen BK550.out 0
  have hfz45_1 := blk_frozen BK550.out 1
  have hfz45_2 := blk_frozen BK550.out 2
  have hfz45_3 := blk_frozen BK550.out 3
  have hfz45_4 := blk_frozen BK550.out 4
  try go_wp2
  go_ret
  exact ⟨er_, pb_ HB⟩
 rw [if_neg c20] at H
 have c20b0 : (a0_0 == 1) = false := beq_eq_false_iff_ne.mpr c20
 have c20b1 : (a0_0 != 1) = true := bne_iff_ne.mpr c20
 by_cases c46 : a0_0 = 2
 ·
  rw [if_pos c46] at H
  have c46b0 : (a0_0 == 2) = true := beq_iff_eq.mpr c46
  have c46b1 : (a0_0 != 2) = false := bne_eq_false_iff_eq.mpr c46
  clear c46
  by_cases c47 : (!(a0_2 == 0) || (!a0_4.toList.isEmpty)) = true
  ·
   rw [if_pos c47] at H
   have c47b0 : (!(a0_2 == 0) || (!a0_4.toList.isEmpty)) = true := c47
   clear c47
   obtain rfl := Option.some.inj H
   go_enter Try.func60, Try.ntmps60
   try go_wp2_with (first | ((with_reducible refine gate_dst (N := 1) rfl ?_); refine bx_ 1 #[.int .i64 a0_0, .int .i64 a0_1, .int .i64 a0_2, .int .i64 a0_3, .string a0_4] 66 ?_; intro gb549 hg w48 hbox hb; have BK549 := Aside0.mk (hbox); have GW549 := gw_ hg HB; have GE549 := gw_ hg HB; replace HB := sb_ HB hb; clear hb hbox hg; have hcz49_0 := cz_ BK549 0 (.int .i64 a0_0); have hcz49_1 := cz_ BK549 1 (.int .i64 a0_1); have hcz49_2 := cz_ BK549 2 (.int .i64 a0_2); have hcz49_3 := cz_ BK549 3 (.int .i64 a0_3); have hcz49_4 := cz_ BK549 4 (.string a0_4); have hfz49_0 := blk_frozen BK549.out 0; have hfz49_1 := blk_frozen BK549.out 1; have hfz49_2 := blk_frozen BK549.out 2; have hfz49_3 := blk_frozen BK549.out 3; have hfz49_4 := blk_frozen BK549.out 4) | ((with_reducible refine gate_dst (N := 3) rfl ?_); refine bx_ 3 #[.int .i64 0, .int .i64 0, .int .i64 0, .int .i64 0, .string (⟨#[]⟩ : ByteArray)] 66 ?_; intro gb550 hg w50 hbox hb; have BK550 := Aside0.mk (hbox); have GW550 := gw_ hg HB; have GE550 := gw_ hg HB; replace HB := sb_ HB hb; have NB549_550 := nl_ hg BK549; have NB550_549 := ng_ hg BK549; replace BK549 := kb_ BK549 hb; clear hb hbox hg; have hnb51 := NB550_549.out; have hnc51 := NB549_550.out; have hcz52_0 := cz_ BK550 0 (.int .i64 0); have hcz52_1 := cz_ BK550 1 (.int .i64 0); have hcz52_2 := cz_ BK550 2 (.int .i64 0); have hcz52_3 := cz_ BK550 3 (.int .i64 0); have hcz52_4 := cz_ BK550 4 (.string (⟨#[]⟩ : ByteArray)); have hfz52_0 := blk_frozen BK550.out 0; have hfz52_1 := blk_frozen BK550.out 1; have hfz52_2 := blk_frozen BK550.out 2; have hfz52_3 := blk_frozen BK550.out 3; have hfz52_4 := blk_frozen BK550.out 4; have hcz53_0 := cz_ BK549 0 (.int .i64 a0_0); have hcz53_1 := cz_ BK549 1 (.int .i64 a0_1); have hcz53_2 := cz_ BK549 2 (.int .i64 a0_2); have hcz53_3 := cz_ BK549 3 (.int .i64 a0_3); have hcz53_4 := cz_ BK549 4 (.string a0_4); have hfz53_0 := blk_frozen BK549.out 0; have hfz53_1 := blk_frozen BK549.out 1; have hfz53_2 := blk_frozen BK549.out 2; have hfz53_3 := blk_frozen BK549.out 3; have hfz53_4 := blk_frozen BK549.out 4))
   have n0_ : Aside0 ((((((w50.setCell ⟨gb550, 0, none⟩ (.int .i64 a0_0)).setCell ⟨gb550, 1, none⟩ (.int .i64 0)).setCell ⟨gb550, 2, none⟩ (.int .i64 0)).setCell ⟨gb550, 3, none⟩ (.int .i64 0)).setCell ⟨gb550, 4, none⟩ (.string (⟨#[]⟩ : ByteArray))).heap[gb549]? = some (.cells #[.int .i64 a0_0, .int .i64 a0_1, .int .i64 a0_2, .int .i64 a0_3, .string a0_4] 66 (0, 0))) := ⟨by (with_reducible repeat (first | refine blk_drewN ?_ _ | refine blk_drew ?_ | refine blk_alloc ?_ _)); refine blk_far ?_ NB549_550.out _; (with_reducible repeat (first | refine blk_drewN ?_ _ | refine blk_drew ?_ | refine blk_alloc ?_ _)); refine blk_far ?_ NB549_550.out _; (with_reducible repeat (first | refine blk_drewN ?_ _ | refine blk_drew ?_ | refine blk_alloc ?_ _)); refine blk_far ?_ NB549_550.out _; (with_reducible repeat (first | refine blk_drewN ?_ _ | refine blk_drew ?_ | refine blk_alloc ?_ _)); refine blk_far ?_ NB549_550.out _; (with_reducible repeat (first | refine blk_drewN ?_ _ | refine blk_drew ?_ | refine blk_alloc ?_ _)); refine blk_far ?_ NB549_550.out _; (with_reducible repeat (first | refine blk_drewN ?_ _ | refine blk_drew ?_ | refine blk_alloc ?_ _)); exact BK549.out⟩
   have n1_ : Aside0 ((((((w50.setCell ⟨gb550, 0, none⟩ (.int .i64 a0_0)).setCell ⟨gb550, 1, none⟩ (.int .i64 0)).setCell ⟨gb550, 2, none⟩ (.int .i64 0)).setCell ⟨gb550, 3, none⟩ (.int .i64 0)).setCell ⟨gb550, 4, none⟩ (.string (⟨#[]⟩ : ByteArray))).heap[gb550]? = some (.cells #[.int .i64 a0_0, .int .i64 0, .int .i64 0, .int .i64 0, .string (⟨#[]⟩ : ByteArray)] 66 (0, 0))) := ⟨bq_ BK550⟩
   have n2_ : Aside0 (Below w.heap.size w (((((w50.setCell ⟨gb550, 0, none⟩ (.int .i64 a0_0)).setCell ⟨gb550, 1, none⟩ (.int .i64 0)).setCell ⟨gb550, 2, none⟩ (.int .i64 0)).setCell ⟨gb550, 3, none⟩ (.int .i64 0)).setCell ⟨gb550, 4, none⟩ (.string (⟨#[]⟩ : ByteArray)))) := ⟨pb_ HB⟩
   (try clear BK549)
   (try clear BK550)
   (try clear HB)
   generalize (((((w50.setCell ⟨gb550, 0, none⟩ (.int .i64 a0_0)).setCell ⟨gb550, 1, none⟩ (.int .i64 0)).setCell ⟨gb550, 2, none⟩ (.int .i64 0)).setCell ⟨gb550, 3, none⟩ (.int .i64 0)).setCell ⟨gb550, 4, none⟩ (.string (⟨#[]⟩ : ByteArray))) = w54 at n0_ n1_ n2_ ⊢
   have BK549 := n0_
   have BK550 := n1_
   have HB := n2_
   clear n0_ n1_ n2_
   replace BK549 := Aside0.mk (blk_drew BK549.out)
   replace BK550 := Aside0.mk (blk_drew BK550.out)
   replace HB := Aside0.mk (below_drew1 HB.out)
   refine start_ (n := 8) (S := fun w' => w'.cell? ⟨gb549, 0, none⟩ = some (.int .i64 a0_0) ∧ w'.cell? ⟨gb549, 1, none⟩ = some (.int .i64 a0_1) ∧ w'.cell? ⟨gb549, 2, none⟩ = some (.int .i64 a0_2) ∧ w'.cell? ⟨gb549, 3, none⟩ = some (.int .i64 a0_3) ∧ w'.cell? ⟨gb549, 4, none⟩ = some (.string a0_4)) (ds := []) #[false, false, false, false, false, false, false, false] (by kernel_rfl) rfl rfl ⟨cy_ BK549 0, cy_ BK549 1, cy_ BK549 2, cy_ BK549 3, cy_ BK549 4⟩ (fun hHeld => ?_); refine with_tabW segment_form.tab8 segment_form.bits8 (fun HT_ HW_ => ?_)
   generalize w54.drew = w55 at BK549 BK550 HB hHeld ⊢
   refine pu_ 0 17 HT_ ?_
   refine pu_ 2 19 HT_ ?_
   refine tk_ 1 18 HT_ HW_ hHeld rfl (Or.inl ⟨by rfl, by rintro w' ⟨s0, s1, s2, s3, s4⟩; go_simp; with_reducible rfl⟩) ?_
   refine pu_ 4 21 HT_ ?_
   refine tk_ 3 20 HT_ HW_ hHeld rfl (Or.inl ⟨by rfl, by rintro w' ⟨s0, s1, s2, s3, s4⟩; go_simp; with_reducible rfl⟩) ?_
   refine one_ (i := 5) (N := none) #[true, true, true, true, true, true, false, false] rfl rfl (one_of HT_.out (by kernel_rfl)) (by decide) (fun K hK => ?_)
   have hs56 : w55.cell? ⟨gb550, 1, none⟩ = some (.int .i64 0) := (blk_cell BK550.out 1).trans rfl
   have hfs56 := blk_frozen BK550.out 1
   have hns56_0 := NB549_550.out
   have hms56_0 := NB550_549.out
   refine skip_ (w1 := ?_) (by rfl) rfl ?_ ?_
   rotate_left
   ·
    go_simp
    rfl
   refine hK.out _ _ ⟨((cell_far (p := ⟨gb550, _, none⟩) NB549_550.out _).trans (hHeld.1)), ((cell_far (p := ⟨gb550, _, none⟩) NB549_550.out _).trans (hHeld.2.1)), ((cell_far (p := ⟨gb550, _, none⟩) NB549_550.out _).trans (hHeld.2.2.1)), ((cell_far (p := ⟨gb550, _, none⟩) NB549_550.out _).trans (hHeld.2.2.2.1)), ((cell_far (p := ⟨gb550, _, none⟩) NB549_550.out _).trans (hHeld.2.2.2.2))⟩ (fun hHeld => ?_)
   clear hK K
   refine pu_ 6 22 HT_ ?_
   refine one_ (i := 7) (N := none) #[true, true, true, true, true, true, true, true] rfl rfl (one_of HT_.out (by kernel_rfl)) (by decide) (fun K hK => ?_)
   have hs57 : w55.cell? ⟨gb550, 3, none⟩ = some (.int .i64 0) := (blk_cell BK550.out 3).trans rfl
   have hfs57 := blk_frozen BK550.out 3
   have hns57_0 := NB549_550.out
   have hms57_0 := NB550_549.out
   refine skip_ (w1 := ?_) (by rfl) rfl ?_ ?_
   rotate_left
   ·
    go_simp
    rfl
   refine hK.out _ _ ⟨((cell_far (p := ⟨gb550, _, none⟩) NB549_550.out _).trans (hHeld.1)), ((cell_far (p := ⟨gb550, _, none⟩) NB549_550.out _).trans (hHeld.2.1)), ((cell_far (p := ⟨gb550, _, none⟩) NB549_550.out _).trans (hHeld.2.2.1)), ((cell_far (p := ⟨gb550, _, none⟩) NB549_550.out _).trans (hHeld.2.2.2.1)), ((cell_far (p := ⟨gb550, _, none⟩) NB549_550.out _).trans (hHeld.2.2.2.2))⟩ (fun hHeld => ?_)
   clear hK K
   refine done_ (done_of HT_.out (by kernel_rfl)) ?_
   have hcz58_0 := cz_ BK549 0 (.int .i64 a0_0)
   have hcz58_1 := cz_ BK549 1 (.int .i64 a0_1)
   have hcz58_2 := cz_ BK549 2 (.int .i64 a0_2)
   have hcz58_3 := cz_ BK549 3 (.int .i64 a0_3)
   have hcz58_4 := cz_ BK549 4 (.string a0_4)
   have hfz58_0 := blk_frozen BK549.out 0
   have hfz58_1 := blk_frozen BK549.out 1
   have hfz58_2 := blk_frozen BK549.out 2
   have hfz58_3 := blk_frozen BK549.out 3
   have hfz58_4 := blk_frozen BK549.out 4
   have hcz59_0 := cz_ BK550 0 (.int .i64 a0_0)
   have hcz59_1 := cz_ BK550 1 (.int .i64 0)
   have hcz59_2 := cz_ BK550 2 (.int .i64 0)
   have hcz59_3 := cz_ BK550 3 (.int .i64 0)
   have hcz59_4 := cz_ BK550 4 (.string (⟨#[]⟩ : ByteArray))
   have hfz59_0 := blk_frozen BK550.out 0
   have hfz59_1 := blk_frozen BK550.out 1
   have hfz59_2 := blk_frozen BK550.out 2
   have hfz59_3 := blk_frozen BK550.out 3
   have hfz59_4 := blk_frozen BK550.out 4
   try go_wp2
   go_ret
   exact ⟨er_, pb_ HB⟩
  rw [if_neg c47] at H
  have c47b0 : (!(a0_2 == 0) || (!a0_4.toList.isEmpty)) = false := by simpa using c47
  clear c47
  obtain rfl := Option.some.inj H
  go_enter Try.func60, Try.ntmps60
  try go_wp2_with (first | ((with_reducible refine gate_dst (N := 1) rfl ?_); refine bx_ 1 #[.int .i64 a0_0, .int .i64 a0_1, .int .i64 a0_2, .int .i64 a0_3, .string a0_4] 66 ?_; intro gb549 hg w60 hbox hb; have BK549 := Aside0.mk (hbox); have GW549 := gw_ hg HB; have GE549 := gw_ hg HB; replace HB := sb_ HB hb; clear hb hbox hg; have hcz61_0 := cz_ BK549 0 (.int .i64 a0_0); have hcz61_1 := cz_ BK549 1 (.int .i64 a0_1); have hcz61_2 := cz_ BK549 2 (.int .i64 a0_2); have hcz61_3 := cz_ BK549 3 (.int .i64 a0_3); have hcz61_4 := cz_ BK549 4 (.string a0_4); have hfz61_0 := blk_frozen BK549.out 0; have hfz61_1 := blk_frozen BK549.out 1; have hfz61_2 := blk_frozen BK549.out 2; have hfz61_3 := blk_frozen BK549.out 3; have hfz61_4 := blk_frozen BK549.out 4) | ((with_reducible refine gate_dst (N := 3) rfl ?_); refine bx_ 3 #[.int .i64 0, .int .i64 0, .int .i64 0, .int .i64 0, .string (⟨#[]⟩ : ByteArray)] 66 ?_; intro gb550 hg w62 hbox hb; have BK550 := Aside0.mk (hbox); have GW550 := gw_ hg HB; have GE550 := gw_ hg HB; replace HB := sb_ HB hb; have NB549_550 := nl_ hg BK549; have NB550_549 := ng_ hg BK549; replace BK549 := kb_ BK549 hb; clear hb hbox hg; have hnb63 := NB550_549.out; have hnc63 := NB549_550.out; have hcz64_0 := cz_ BK550 0 (.int .i64 0); have hcz64_1 := cz_ BK550 1 (.int .i64 0); have hcz64_2 := cz_ BK550 2 (.int .i64 0); have hcz64_3 := cz_ BK550 3 (.int .i64 0); have hcz64_4 := cz_ BK550 4 (.string (⟨#[]⟩ : ByteArray)); have hfz64_0 := blk_frozen BK550.out 0; have hfz64_1 := blk_frozen BK550.out 1; have hfz64_2 := blk_frozen BK550.out 2; have hfz64_3 := blk_frozen BK550.out 3; have hfz64_4 := blk_frozen BK550.out 4; have hcz65_0 := cz_ BK549 0 (.int .i64 a0_0); have hcz65_1 := cz_ BK549 1 (.int .i64 a0_1); have hcz65_2 := cz_ BK549 2 (.int .i64 a0_2); have hcz65_3 := cz_ BK549 3 (.int .i64 a0_3); have hcz65_4 := cz_ BK549 4 (.string a0_4); have hfz65_0 := blk_frozen BK549.out 0; have hfz65_1 := blk_frozen BK549.out 1; have hfz65_2 := blk_frozen BK549.out 2; have hfz65_3 := blk_frozen BK549.out 3; have hfz65_4 := blk_frozen BK549.out 4))
  have n0_ : Aside0 ((((((w62.setCell ⟨gb550, 0, none⟩ (.int .i64 a0_0)).setCell ⟨gb550, 1, none⟩ (.int .i64 0)).setCell ⟨gb550, 2, none⟩ (.int .i64 0)).setCell ⟨gb550, 3, none⟩ (.int .i64 0)).setCell ⟨gb550, 4, none⟩ (.string (⟨#[]⟩ : ByteArray))).heap[gb549]? = some (.cells #[.int .i64 a0_0, .int .i64 a0_1, .int .i64 a0_2, .int .i64 a0_3, .string a0_4] 66 (0, 0))) := ⟨by (with_reducible repeat (first | refine blk_drewN ?_ _ | refine blk_drew ?_ | refine blk_alloc ?_ _)); refine blk_far ?_ NB549_550.out _; (with_reducible repeat (first | refine blk_drewN ?_ _ | refine blk_drew ?_ | refine blk_alloc ?_ _)); refine blk_far ?_ NB549_550.out _; (with_reducible repeat (first | refine blk_drewN ?_ _ | refine blk_drew ?_ | refine blk_alloc ?_ _)); refine blk_far ?_ NB549_550.out _; (with_reducible repeat (first | refine blk_drewN ?_ _ | refine blk_drew ?_ | refine blk_alloc ?_ _)); refine blk_far ?_ NB549_550.out _; (with_reducible repeat (first | refine blk_drewN ?_ _ | refine blk_drew ?_ | refine blk_alloc ?_ _)); refine blk_far ?_ NB549_550.out _; (with_reducible repeat (first | refine blk_drewN ?_ _ | refine blk_drew ?_ | refine blk_alloc ?_ _)); exact BK549.out⟩
  have n1_ : Aside0 ((((((w62.setCell ⟨gb550, 0, none⟩ (.int .i64 a0_0)).setCell ⟨gb550, 1, none⟩ (.int .i64 0)).setCell ⟨gb550, 2, none⟩ (.int .i64 0)).setCell ⟨gb550, 3, none⟩ (.int .i64 0)).setCell ⟨gb550, 4, none⟩ (.string (⟨#[]⟩ : ByteArray))).heap[gb550]? = some (.cells #[.int .i64 a0_0, .int .i64 0, .int .i64 0, .int .i64 0, .string (⟨#[]⟩ : ByteArray)] 66 (0, 0))) := ⟨bq_ BK550⟩
  have n2_ : Aside0 (Below w.heap.size w (((((w62.setCell ⟨gb550, 0, none⟩ (.int .i64 a0_0)).setCell ⟨gb550, 1, none⟩ (.int .i64 0)).setCell ⟨gb550, 2, none⟩ (.int .i64 0)).setCell ⟨gb550, 3, none⟩ (.int .i64 0)).setCell ⟨gb550, 4, none⟩ (.string (⟨#[]⟩ : ByteArray)))) := ⟨pb_ HB⟩
  (try clear BK549)
  (try clear BK550)
  (try clear HB)
  generalize (((((w62.setCell ⟨gb550, 0, none⟩ (.int .i64 a0_0)).setCell ⟨gb550, 1, none⟩ (.int .i64 0)).setCell ⟨gb550, 2, none⟩ (.int .i64 0)).setCell ⟨gb550, 3, none⟩ (.int .i64 0)).setCell ⟨gb550, 4, none⟩ (.string (⟨#[]⟩ : ByteArray))) = w66 at n0_ n1_ n2_ ⊢
  have BK549 := n0_
  have BK550 := n1_
  have HB := n2_
  clear n0_ n1_ n2_
  replace BK549 := Aside0.mk (blk_drew BK549.out)
  replace BK550 := Aside0.mk (blk_drew BK550.out)
  replace HB := Aside0.mk (below_drew1 HB.out)
  refine start_ (n := 8) (S := fun w' => w'.cell? ⟨gb549, 0, none⟩ = some (.int .i64 a0_0) ∧ w'.cell? ⟨gb549, 1, none⟩ = some (.int .i64 a0_1) ∧ w'.cell? ⟨gb549, 2, none⟩ = some (.int .i64 a0_2) ∧ w'.cell? ⟨gb549, 3, none⟩ = some (.int .i64 a0_3) ∧ w'.cell? ⟨gb549, 4, none⟩ = some (.string a0_4)) (ds := []) #[false, false, false, false, false, false, false, false] (by kernel_rfl) rfl rfl ⟨cy_ BK549 0, cy_ BK549 1, cy_ BK549 2, cy_ BK549 3, cy_ BK549 4⟩ (fun hHeld => ?_); refine with_tabW segment_form.tab8 segment_form.bits8 (fun HT_ HW_ => ?_)
  generalize w66.drew = w67 at BK549 BK550 HB hHeld ⊢
  refine pu_ 0 17 HT_ ?_
  refine pu_ 2 19 HT_ ?_
  refine tk_ 1 18 HT_ HW_ hHeld rfl (Or.inl ⟨by rfl, by rintro w' ⟨s0, s1, s2, s3, s4⟩; go_simp; with_reducible rfl⟩) ?_
  refine pu_ 4 21 HT_ ?_
  refine tk_ 3 20 HT_ HW_ hHeld rfl (Or.inl ⟨by rfl, by rintro w' ⟨s0, s1, s2, s3, s4⟩; go_simp; with_reducible rfl⟩) ?_
  refine one_ (i := 5) (N := none) #[true, true, true, true, true, true, false, false] rfl rfl (one_of HT_.out (by kernel_rfl)) (by decide) (fun K hK => ?_)
  have hs68 : w67.cell? ⟨gb550, 1, none⟩ = some (.int .i64 0) := (blk_cell BK550.out 1).trans rfl
  have hfs68 := blk_frozen BK550.out 1
  have hns68_0 := NB549_550.out
  have hms68_0 := NB550_549.out
  refine skip_ (w1 := ?_) (by rfl) rfl ?_ ?_
  rotate_left
  ·
   go_simp
   rfl
  refine hK.out _ _ ⟨((cell_far (p := ⟨gb550, _, none⟩) NB549_550.out _).trans (hHeld.1)), ((cell_far (p := ⟨gb550, _, none⟩) NB549_550.out _).trans (hHeld.2.1)), ((cell_far (p := ⟨gb550, _, none⟩) NB549_550.out _).trans (hHeld.2.2.1)), ((cell_far (p := ⟨gb550, _, none⟩) NB549_550.out _).trans (hHeld.2.2.2.1)), ((cell_far (p := ⟨gb550, _, none⟩) NB549_550.out _).trans (hHeld.2.2.2.2))⟩ (fun hHeld => ?_)
  clear hK K
  refine pu_ 6 22 HT_ ?_
  refine one_ (i := 7) (N := none) #[true, true, true, true, true, true, true, true] rfl rfl (one_of HT_.out (by kernel_rfl)) (by decide) (fun K hK => ?_)
  have hs69 : w67.cell? ⟨gb550, 3, none⟩ = some (.int .i64 0) := (blk_cell BK550.out 3).trans rfl
  have hfs69 := blk_frozen BK550.out 3
  have hns69_0 := NB549_550.out
  have hms69_0 := NB550_549.out
  refine skip_ (w1 := ?_) (by rfl) rfl ?_ ?_
  rotate_left
  ·
   go_simp
   rfl
  refine hK.out _ _ ⟨((cell_far (p := ⟨gb550, _, none⟩) NB549_550.out _).trans (hHeld.1)), ((cell_far (p := ⟨gb550, _, none⟩) NB549_550.out _).trans (hHeld.2.1)), ((cell_far (p := ⟨gb550, _, none⟩) NB549_550.out _).trans (hHeld.2.2.1)), ((cell_far (p := ⟨gb550, _, none⟩) NB549_550.out _).trans (hHeld.2.2.2.1)), ((cell_far (p := ⟨gb550, _, none⟩) NB549_550.out _).trans (hHeld.2.2.2.2))⟩ (fun hHeld => ?_)
  clear hK K
  refine done_ (done_of HT_.out (by kernel_rfl)) ?_
  have hcz70_0 := cz_ BK549 0 (.int .i64 a0_0)
  have hcz70_1 := cz_ BK549 1 (.int .i64 a0_1)
  have hcz70_2 := cz_ BK549 2 (.int .i64 a0_2)
  have hcz70_3 := cz_ BK549 3 (.int .i64 a0_3)
  have hcz70_4 := cz_ BK549 4 (.string a0_4)
  have hfz70_0 := blk_frozen BK549.out 0
  have hfz70_1 := blk_frozen BK549.out 1
  have hfz70_2 := blk_frozen BK549.out 2
  have hfz70_3 := blk_frozen BK549.out 3
  have hfz70_4 := blk_frozen BK549.out 4
  have hcz71_0 := cz_ BK550 0 (.int .i64 a0_0)
  have hcz71_1 := cz_ BK550 1 (.int .i64 0)
  have hcz71_2 := cz_ BK550 2 (.int .i64 0)
  have hcz71_3 := cz_ BK550 3 (.int .i64 0)
  have hcz71_4 := cz_ BK550 4 (.string (⟨#[]⟩ : ByteArray))
  have hfz71_0 := blk_frozen BK550.out 0
  have hfz71_1 := blk_frozen BK550.out 1
  have hfz71_2 := blk_frozen BK550.out 2
  have hfz71_3 := blk_frozen BK550.out 3
  have hfz71_4 := blk_frozen BK550.out 4
  try go_wp2
  go_ret
  exact ⟨er_, pb_ HB⟩
 rw [if_neg c46] at H
 have c46b0 : (a0_0 == 2) = false := beq_eq_false_iff_ne.mpr c46
 have c46b1 : (a0_0 != 2) = true := bne_iff_ne.mpr c46
 by_cases c72 : a0_0 = 3
 ·
  rw [if_pos c72] at H
  have c72b0 : (a0_0 == 3) = true := beq_iff_eq.mpr c72
  have c72b1 : (a0_0 != 3) = false := bne_eq_false_iff_eq.mpr c72
  clear c72
  by_cases c73 : (!(a0_2 == 0) || (!(a0_3 == 0) || (!a0_4.toList.isEmpty))) = true
  ·
   rw [if_pos c73] at H
   have c73b0 : (!(a0_2 == 0) || (!(a0_3 == 0) || (!a0_4.toList.isEmpty))) = true := c73
   clear c73
   obtain rfl := Option.some.inj H
   go_enter Try.func60, Try.ntmps60
   go_wp2_with (first | ((with_reducible refine gate_dst (N := 1) rfl ?_); refine bx_ 1 #[.int .i64 a0_0, .int .i64 a0_1, .int .i64 a0_2, .int .i64 a0_3, .string a0_4] 66 ?_; intro gb549 hg w74 hbox hb; have BK549 := Aside0.mk (hbox); have GW549 := gw_ hg HB; have GE549 := gw_ hg HB; replace HB := sb_ HB hb; clear hb hbox hg; have hcz75_0 := cz_ BK549 0 (.int .i64 a0_0); have hcz75_1 := cz_ BK549 1 (.int .i64 a0_1); have hcz75_2 := cz_ BK549 2 (.int .i64 a0_2); have hcz75_3 := cz_ BK549 3 (.int .i64 a0_3); have hcz75_4 := cz_ BK549 4 (.string a0_4); have hfz75_0 := blk_frozen BK549.out 0; have hfz75_1 := blk_frozen BK549.out 1; have hfz75_2 := blk_frozen BK549.out 2; have hfz75_3 := blk_frozen BK549.out 3; have hfz75_4 := blk_frozen BK549.out 4) | ((with_reducible refine gate_dst (N := 3) rfl ?_); refine bx_ 3 #[.int .i64 0, .int .i64 0, .int .i64 0, .int .i64 0, .string (⟨#[]⟩ : ByteArray)] 66 ?_; intro gb550 hg w76 hbox hb; have BK550 := Aside0.mk (hbox); have GW550 := gw_ hg HB; have GE550 := gw_ hg HB; replace HB := sb_ HB hb; have NB549_550 := nl_ hg BK549; have NB550_549 := ng_ hg BK549; replace BK549 := kb_ BK549 hb; clear hb hbox hg; have hnb77 := NB550_549.out; have hnc77 := NB549_550.out; have hcz78_0 := cz_ BK550 0 (.int .i64 0); have hcz78_1 := cz_ BK550 1 (.int .i64 0); have hcz78_2 := cz_ BK550 2 (.int .i64 0); have hcz78_3 := cz_ BK550 3 (.int .i64 0); have hcz78_4 := cz_ BK550 4 (.string (⟨#[]⟩ : ByteArray)); have hfz78_0 := blk_frozen BK550.out 0; have hfz78_1 := blk_frozen BK550.out 1; have hfz78_2 := blk_frozen BK550.out 2; have hfz78_3 := blk_frozen BK550.out 3; have hfz78_4 := blk_frozen BK550.out 4) | ((with_reducible refine gate_store (t := 66) (p := 3) rfl ?_); refine store_event (t := 66) (p := 3) (v := ?vo_w79) (w1 := (((((w76.setCell ⟨gb550, 0, none⟩ (.int .i64 a0_0)).setCell ⟨gb550, 1, none⟩ (.int .i64 0)).setCell ⟨gb550, 2, none⟩ (.int .i64 0)).setCell ⟨gb550, 3, none⟩ (.int .i64 0)).setCell ⟨gb550, 4, none⟩ (.string (⟨#[]⟩ : ByteArray)))) ?hg ?ho ?hn ?hr ?_; (case ho => rfl); (case hg => rfl); (case hn => rfl); (case hr => first | (go_simp; done) | (go_simp; rfl)); intro w79 hw; have n0_ : Aside0 (w79.heap[gb549]? = some (.cells #[.int .i64 a0_0, .int .i64 a0_1, .int .i64 a0_2, .int .i64 a0_3, .string a0_4] 66 (0, 0))) := ⟨(by rw [hw]; exact (by (with_reducible repeat (first | refine blk_drewN ?_ _ | refine blk_drew ?_ | refine blk_alloc ?_ _)); refine blk_far ?_ NB549_550.out _; (with_reducible repeat (first | refine blk_drewN ?_ _ | refine blk_drew ?_ | refine blk_alloc ?_ _)); refine blk_far ?_ NB549_550.out _; (with_reducible repeat (first | refine blk_drewN ?_ _ | refine blk_drew ?_ | refine blk_alloc ?_ _)); refine blk_far ?_ NB549_550.out _; (with_reducible repeat (first | refine blk_drewN ?_ _ | refine blk_drew ?_ | refine blk_alloc ?_ _)); refine blk_far ?_ NB549_550.out _; (with_reducible repeat (first | refine blk_drewN ?_ _ | refine blk_drew ?_ | refine blk_alloc ?_ _)); refine blk_far ?_ NB549_550.out _; (with_reducible repeat (first | refine blk_drewN ?_ _ | refine blk_drew ?_ | refine blk_alloc ?_ _)); exact BK549.out))⟩; have n1_ : Aside0 (w79.heap[gb550]? = some (.cells #[.int .i64 a0_0, .int .i64 0, .int .i64 0, .int .i64 0, .string (⟨#[]⟩ : ByteArray)] 66 (0, 0))) := ⟨(by rw [hw]; exact (bq_ BK550))⟩; have n2_ : Aside0 (Below w.heap.size w w79) := ⟨(by rw [hw]; exact (pb_ HB))⟩; clear hw; clear BK549; clear BK550; clear HB; have BK549 := n0_; have BK550 := n1_; have HB := n2_; clear n0_ n1_ n2_; have hcz80_0 := cz_ BK549 0 (.int .i64 a0_0); have hcz80_1 := cz_ BK549 1 (.int .i64 a0_1); have hcz80_2 := cz_ BK549 2 (.int .i64 a0_2); have hcz80_3 := cz_ BK549 3 (.int .i64 a0_3); have hcz80_4 := cz_ BK549 4 (.string a0_4); have hfz80_0 := blk_frozen BK549.out 0; have hfz80_1 := blk_frozen BK549.out 1; have hfz80_2 := blk_frozen BK549.out 2; have hfz80_3 := blk_frozen BK549.out 3; have hfz80_4 := blk_frozen BK549.out 4; have hcz81_0 := cz_ BK550 0 (.int .i64 a0_0); have hcz81_1 := cz_ BK550 1 (.int .i64 0); have hcz81_2 := cz_ BK550 2 (.int .i64 0); have hcz81_3 := cz_ BK550 3 (.int .i64 0); have hcz81_4 := cz_ BK550 4 (.string (⟨#[]⟩ : ByteArray)); have hfz81_0 := blk_frozen BK550.out 0; have hfz81_1 := blk_frozen BK550.out 1; have hfz81_2 := blk_frozen BK550.out 2; have hfz81_3 := blk_frozen BK550.out 3; have hfz81_4 := blk_frozen BK550.out 4))
   go_ret
   exact ⟨er_, pb_ HB⟩
  rw [if_neg c73] at H
  have c73b0 : (!(a0_2 == 0) || (!(a0_3 == 0) || (!a0_4.toList.isEmpty))) = false := by simpa using c73
  clear c73
  obtain rfl := Option.some.inj H
  go_enter Try.func60, Try.ntmps60
  go_wp2_with (first | ((with_reducible refine gate_dst (N := 1) rfl ?_); refine bx_ 1 #[.int .i64 a0_0, .int .i64 a0_1, .int .i64 a0_2, .int .i64 a0_3, .string a0_4] 66 ?_; intro gb549 hg w82 hbox hb; have BK549 := Aside0.mk (hbox); have GW549 := gw_ hg HB; have GE549 := gw_ hg HB; replace HB := sb_ HB hb; clear hb hbox hg; have hcz83_0 := cz_ BK549 0 (.int .i64 a0_0); have hcz83_1 := cz_ BK549 1 (.int .i64 a0_1); have hcz83_2 := cz_ BK549 2 (.int .i64 a0_2); have hcz83_3 := cz_ BK549 3 (.int .i64 a0_3); have hcz83_4 := cz_ BK549 4 (.string a0_4); have hfz83_0 := blk_frozen BK549.out 0; have hfz83_1 := blk_frozen BK549.out 1; have hfz83_2 := blk_frozen BK549.out 2; have hfz83_3 := blk_frozen BK549.out 3; have hfz83_4 := blk_frozen BK549.out 4) | ((with_reducible refine gate_dst (N := 3) rfl ?_); refine bx_ 3 #[.int .i64 0, .int .i64 0, .int .i64 0, .int .i64 0, .string (⟨#[]⟩ : ByteArray)] 66 ?_; intro gb550 hg w84 hbox hb; have BK550 := Aside0.mk (hbox); have GW550 := gw_ hg HB; have GE550 := gw_ hg HB; replace HB := sb_ HB hb; have NB549_550 := nl_ hg BK549; have NB550_549 := ng_ hg BK549; replace BK549 := kb_ BK549 hb; clear hb hbox hg; have hnb85 := NB550_549.out; have hnc85 := NB549_550.out; have hcz86_0 := cz_ BK550 0 (.int .i64 0); have hcz86_1 := cz_ BK550 1 (.int .i64 0); have hcz86_2 := cz_ BK550 2 (.int .i64 0); have hcz86_3 := cz_ BK550 3 (.int .i64 0); have hcz86_4 := cz_ BK550 4 (.string (⟨#[]⟩ : ByteArray)); have hfz86_0 := blk_frozen BK550.out 0; have hfz86_1 := blk_frozen BK550.out 1; have hfz86_2 := blk_frozen BK550.out 2; have hfz86_3 := blk_frozen BK550.out 3; have hfz86_4 := blk_frozen BK550.out 4) | ((with_reducible refine gate_store (t := 66) (p := 3) rfl ?_); refine store_event (t := 66) (p := 3) (v := ?vo_w87) (w1 := (((((w84.setCell ⟨gb550, 0, none⟩ (.int .i64 a0_0)).setCell ⟨gb550, 1, none⟩ (.int .i64 0)).setCell ⟨gb550, 2, none⟩ (.int .i64 0)).setCell ⟨gb550, 3, none⟩ (.int .i64 0)).setCell ⟨gb550, 4, none⟩ (.string (⟨#[]⟩ : ByteArray)))) ?hg ?ho ?hn ?hr ?_; (case ho => rfl); (case hg => rfl); (case hn => rfl); (case hr => first | (go_simp; done) | (go_simp; rfl)); intro w87 hw; have n0_ : Aside0 (w87.heap[gb549]? = some (.cells #[.int .i64 a0_0, .int .i64 a0_1, .int .i64 a0_2, .int .i64 a0_3, .string a0_4] 66 (0, 0))) := ⟨(by rw [hw]; exact (by (with_reducible repeat (first | refine blk_drewN ?_ _ | refine blk_drew ?_ | refine blk_alloc ?_ _)); refine blk_far ?_ NB549_550.out _; (with_reducible repeat (first | refine blk_drewN ?_ _ | refine blk_drew ?_ | refine blk_alloc ?_ _)); refine blk_far ?_ NB549_550.out _; (with_reducible repeat (first | refine blk_drewN ?_ _ | refine blk_drew ?_ | refine blk_alloc ?_ _)); refine blk_far ?_ NB549_550.out _; (with_reducible repeat (first | refine blk_drewN ?_ _ | refine blk_drew ?_ | refine blk_alloc ?_ _)); refine blk_far ?_ NB549_550.out _; (with_reducible repeat (first | refine blk_drewN ?_ _ | refine blk_drew ?_ | refine blk_alloc ?_ _)); refine blk_far ?_ NB549_550.out _; (with_reducible repeat (first | refine blk_drewN ?_ _ | refine blk_drew ?_ | refine blk_alloc ?_ _)); exact BK549.out))⟩; have n1_ : Aside0 (w87.heap[gb550]? = some (.cells #[.int .i64 a0_0, .int .i64 0, .int .i64 0, .int .i64 0, .string (⟨#[]⟩ : ByteArray)] 66 (0, 0))) := ⟨(by rw [hw]; exact (bq_ BK550))⟩; have n2_ : Aside0 (Below w.heap.size w w87) := ⟨(by rw [hw]; exact (pb_ HB))⟩; clear hw; clear BK549; clear BK550; clear HB; have BK549 := n0_; have BK550 := n1_; have HB := n2_; clear n0_ n1_ n2_; have hcz88_0 := cz_ BK549 0 (.int .i64 a0_0); have hcz88_1 := cz_ BK549 1 (.int .i64 a0_1); have hcz88_2 := cz_ BK549 2 (.int .i64 a0_2); have hcz88_3 := cz_ BK549 3 (.int .i64 a0_3); have hcz88_4 := cz_ BK549 4 (.string a0_4); have hfz88_0 := blk_frozen BK549.out 0; have hfz88_1 := blk_frozen BK549.out 1; have hfz88_2 := blk_frozen BK549.out 2; have hfz88_3 := blk_frozen BK549.out 3; have hfz88_4 := blk_frozen BK549.out 4; have hcz89_0 := cz_ BK550 0 (.int .i64 a0_0); have hcz89_1 := cz_ BK550 1 (.int .i64 0); have hcz89_2 := cz_ BK550 2 (.int .i64 0); have hcz89_3 := cz_ BK550 3 (.int .i64 0); have hcz89_4 := cz_ BK550 4 (.string (⟨#[]⟩ : ByteArray)); have hfz89_0 := blk_frozen BK550.out 0; have hfz89_1 := blk_frozen BK550.out 1; have hfz89_2 := blk_frozen BK550.out 2; have hfz89_3 := blk_frozen BK550.out 3; have hfz89_4 := blk_frozen BK550.out 4))
  go_ret
  exact ⟨er_, pb_ HB⟩
 rw [if_neg c72] at H
 have c72b0 : (a0_0 == 3) = false := beq_eq_false_iff_ne.mpr c72
 have c72b1 : (a0_0 != 3) = true := bne_iff_ne.mpr c72
 by_cases c90 : a0_0 = 4
 ·
  rw [if_pos c90] at H
  have c90b0 : (a0_0 == 4) = true := beq_iff_eq.mpr c90
  have c90b1 : (a0_0 != 4) = false := bne_eq_false_iff_eq.mpr c90
  clear c90
  by_cases c91 : (!(a0_3 == 0)) = true
  ·
   rw [if_pos c91] at H
   have c91b0 : (!(a0_3 == 0)) = true := c91
   clear c91
   obtain rfl := Option.some.inj H
   go_enter Try.func60, Try.ntmps60
   try go_wp2_with (first | ((with_reducible refine gate_dst (N := 1) rfl ?_); refine bx_ 1 #[.int .i64 a0_0, .int .i64 a0_1, .int .i64 a0_2, .int .i64 a0_3, .string a0_4] 66 ?_; intro gb549 hg w92 hbox hb; have BK549 := Aside0.mk (hbox); have GW549 := gw_ hg HB; have GE549 := gw_ hg HB; replace HB := sb_ HB hb; clear hb hbox hg; have hcz93_0 := cz_ BK549 0 (.int .i64 a0_0); have hcz93_1 := cz_ BK549 1 (.int .i64 a0_1); have hcz93_2 := cz_ BK549 2 (.int .i64 a0_2); have hcz93_3 := cz_ BK549 3 (.int .i64 a0_3); have hcz93_4 := cz_ BK549 4 (.string a0_4); have hfz93_0 := blk_frozen BK549.out 0; have hfz93_1 := blk_frozen BK549.out 1; have hfz93_2 := blk_frozen BK549.out 2; have hfz93_3 := blk_frozen BK549.out 3; have hfz93_4 := blk_frozen BK549.out 4) | ((with_reducible refine gate_dst (N := 3) rfl ?_); refine bx_ 3 #[.int .i64 0, .int .i64 0, .int .i64 0, .int .i64 0, .string (⟨#[]⟩ : ByteArray)] 66 ?_; intro gb550 hg w94 hbox hb; have BK550 := Aside0.mk (hbox); have GW550 := gw_ hg HB; have GE550 := gw_ hg HB; replace HB := sb_ HB hb; have NB549_550 := nl_ hg BK549; have NB550_549 := ng_ hg BK549; replace BK549 := kb_ BK549 hb; clear hb hbox hg; have hnb95 := NB550_549.out; have hnc95 := NB549_550.out; have hcz96_0 := cz_ BK550 0 (.int .i64 0); have hcz96_1 := cz_ BK550 1 (.int .i64 0); have hcz96_2 := cz_ BK550 2 (.int .i64 0); have hcz96_3 := cz_ BK550 3 (.int .i64 0); have hcz96_4 := cz_ BK550 4 (.string (⟨#[]⟩ : ByteArray)); have hfz96_0 := blk_frozen BK550.out 0; have hfz96_1 := blk_frozen BK550.out 1; have hfz96_2 := blk_frozen BK550.out 2; have hfz96_3 := blk_frozen BK550.out 3; have hfz96_4 := blk_frozen BK550.out 4; have hcz97_0 := cz_ BK549 0 (.int .i64 a0_0); have hcz97_1 := cz_ BK549 1 (.int .i64 a0_1); have hcz97_2 := cz_ BK549 2 (.int .i64 a0_2); have hcz97_3 := cz_ BK549 3 (.int .i64 a0_3); have hcz97_4 := cz_ BK549 4 (.string a0_4); have hfz97_0 := blk_frozen BK549.out 0; have hfz97_1 := blk_frozen BK549.out 1; have hfz97_2 := blk_frozen BK549.out 2; have hfz97_3 := blk_frozen BK549.out 3; have hfz97_4 := blk_frozen BK549.out 4))
   have n0_ : Aside0 ((((((w94.setCell ⟨gb550, 0, none⟩ (.int .i64 a0_0)).setCell ⟨gb550, 1, none⟩ (.int .i64 0)).setCell ⟨gb550, 2, none⟩ (.int .i64 0)).setCell ⟨gb550, 3, none⟩ (.int .i64 0)).setCell ⟨gb550, 4, none⟩ (.string (⟨#[]⟩ : ByteArray))).heap[gb549]? = some (.cells #[.int .i64 a0_0, .int .i64 a0_1, .int .i64 a0_2, .int .i64 a0_3, .string a0_4] 66 (0, 0))) := ⟨by (with_reducible repeat (first | refine blk_drewN ?_ _ | refine blk_drew ?_ | refine blk_alloc ?_ _)); refine blk_far ?_ NB549_550.out _; (with_reducible repeat (first | refine blk_drewN ?_ _ | refine blk_drew ?_ | refine blk_alloc ?_ _)); refine blk_far ?_ NB549_550.out _; (with_reducible repeat (first | refine blk_drewN ?_ _ | refine blk_drew ?_ | refine blk_alloc ?_ _)); refine blk_far ?_ NB549_550.out _; (with_reducible repeat (first | refine blk_drewN ?_ _ | refine blk_drew ?_ | refine blk_alloc ?_ _)); refine blk_far ?_ NB549_550.out _; (with_reducible repeat (first | refine blk_drewN ?_ _ | refine blk_drew ?_ | refine blk_alloc ?_ _)); refine blk_far ?_ NB549_550.out _; (with_reducible repeat (first | refine blk_drewN ?_ _ | refine blk_drew ?_ | refine blk_alloc ?_ _)); exact BK549.out⟩
   have n1_ : Aside0 ((((((w94.setCell ⟨gb550, 0, none⟩ (.int .i64 a0_0)).setCell ⟨gb550, 1, none⟩ (.int .i64 0)).setCell ⟨gb550, 2, none⟩ (.int .i64 0)).setCell ⟨gb550, 3, none⟩ (.int .i64 0)).setCell ⟨gb550, 4, none⟩ (.string (⟨#[]⟩ : ByteArray))).heap[gb550]? = some (.cells #[.int .i64 a0_0, .int .i64 0, .int .i64 0, .int .i64 0, .string (⟨#[]⟩ : ByteArray)] 66 (0, 0))) := ⟨bq_ BK550⟩
   have n2_ : Aside0 (Below w.heap.size w (((((w94.setCell ⟨gb550, 0, none⟩ (.int .i64 a0_0)).setCell ⟨gb550, 1, none⟩ (.int .i64 0)).setCell ⟨gb550, 2, none⟩ (.int .i64 0)).setCell ⟨gb550, 3, none⟩ (.int .i64 0)).setCell ⟨gb550, 4, none⟩ (.string (⟨#[]⟩ : ByteArray)))) := ⟨pb_ HB⟩
   (try clear BK549)
   (try clear BK550)
   (try clear HB)
   generalize (((((w94.setCell ⟨gb550, 0, none⟩ (.int .i64 a0_0)).setCell ⟨gb550, 1, none⟩ (.int .i64 0)).setCell ⟨gb550, 2, none⟩ (.int .i64 0)).setCell ⟨gb550, 3, none⟩ (.int .i64 0)).setCell ⟨gb550, 4, none⟩ (.string (⟨#[]⟩ : ByteArray))) = w98 at n0_ n1_ n2_ ⊢
   have BK549 := n0_
   have BK550 := n1_
   have HB := n2_
   clear n0_ n1_ n2_
   replace BK549 := Aside0.mk (blk_drew BK549.out)
   replace BK550 := Aside0.mk (blk_drew BK550.out)
   replace HB := Aside0.mk (below_drew1 HB.out)
   refine start_ (n := 12) (S := fun w' => w'.cell? ⟨gb549, 0, none⟩ = some (.int .i64 a0_0) ∧ w'.cell? ⟨gb549, 1, none⟩ = some (.int .i64 a0_1) ∧ w'.cell? ⟨gb549, 2, none⟩ = some (.int .i64 a0_2) ∧ w'.cell? ⟨gb549, 3, none⟩ = some (.int .i64 a0_3) ∧ w'.cell? ⟨gb549, 4, none⟩ = some (.string a0_4)) (ds := []) #[false, false, false, false, false, false, false, false, false, false, false, false] (by kernel_rfl) rfl rfl ⟨cy_ BK549 0, cy_ BK549 1, cy_ BK549 2, cy_ BK549 3, cy_ BK549 4⟩ (fun hHeld => ?_); refine with_tabW segment_form.tab12 segment_form.bits12 (fun HT_ HW_ => ?_)
   generalize w98.drew = w99 at BK549 BK550 HB hHeld ⊢
   refine pu_ 0 30 HT_ ?_
   refine pu_ 2 32 HT_ ?_
   refine pu_ 4 34 HT_ ?_
   refine tk_ 1 31 HT_ HW_ hHeld rfl (Or.inl ⟨by rfl, by rintro w' ⟨s0, s1, s2, s3, s4⟩; go_simp; with_reducible rfl⟩) ?_
   refine pu_ 6 36 HT_ ?_
   refine tk_ 3 33 HT_ HW_ hHeld rfl (Or.inl ⟨by rfl, by rintro w' ⟨s0, s1, s2, s3, s4⟩; go_simp; with_reducible rfl⟩) ?_
   refine tk_ 5 35 HT_ HW_ hHeld rfl (Or.inl ⟨by rfl, by rintro w' ⟨s0, s1, s2, s3, s4⟩; go_simp; with_reducible rfl⟩) ?_
   refine one_ (i := 7) (N := none) #[true, true, true, true, true, true, true, true, false, false, false, false] rfl rfl (one_of HT_.out (by kernel_rfl)) (by decide) (fun K hK => ?_)
   have hs100 : w99.cell? ⟨gb550, 1, none⟩ = some (.int .i64 0) := (blk_cell BK550.out 1).trans rfl
   have hfs100 := blk_frozen BK550.out 1
   have hns100_0 := NB549_550.out
   have hms100_0 := NB550_549.out
   refine skip_ (w1 := ?_) (by rfl) rfl ?_ ?_
   rotate_left
   ·
    go_simp
    rfl
   refine hK.out _ _ ⟨((cell_far (p := ⟨gb550, _, none⟩) NB549_550.out _).trans (hHeld.1)), ((cell_far (p := ⟨gb550, _, none⟩) NB549_550.out _).trans (hHeld.2.1)), ((cell_far (p := ⟨gb550, _, none⟩) NB549_550.out _).trans (hHeld.2.2.1)), ((cell_far (p := ⟨gb550, _, none⟩) NB549_550.out _).trans (hHeld.2.2.2.1)), ((cell_far (p := ⟨gb550, _, none⟩) NB549_550.out _).trans (hHeld.2.2.2.2))⟩ (fun hHeld => ?_)
   clear hK K
   refine pu_ 8 37 HT_ ?_
   refine one_ (i := 9) (N := none) #[true, true, true, true, true, true, true, true, true, true, false, false] rfl rfl (one_of HT_.out (by kernel_rfl)) (by decide) (fun K hK => ?_)
   have hs101 : w99.cell? ⟨gb550, 2, none⟩ = some (.int .i64 0) := (blk_cell BK550.out 2).trans rfl
   have hfs101 := blk_frozen BK550.out 2
   have hns101_0 := NB549_550.out
   have hms101_0 := NB550_549.out
   refine skip_ (w1 := ?_) (by rfl) rfl ?_ ?_
   rotate_left
   ·
    go_simp
    rfl
   refine hK.out _ _ ⟨((cell_far (p := ⟨gb550, _, none⟩) NB549_550.out _).trans (hHeld.1)), ((cell_far (p := ⟨gb550, _, none⟩) NB549_550.out _).trans (hHeld.2.1)), ((cell_far (p := ⟨gb550, _, none⟩) NB549_550.out _).trans (hHeld.2.2.1)), ((cell_far (p := ⟨gb550, _, none⟩) NB549_550.out _).trans (hHeld.2.2.2.1)), ((cell_far (p := ⟨gb550, _, none⟩) NB549_550.out _).trans (hHeld.2.2.2.2))⟩ (fun hHeld => ?_)
   clear hK K
   refine pu_ 10 38 HT_ ?_
   refine one_ (i := 11) (N := none) #[true, true, true, true, true, true, true, true, true, true, true, true] rfl rfl (one_of HT_.out (by kernel_rfl)) (by decide) (fun K hK => ?_)
   have hs102 : w99.cell? ⟨gb550, 4, none⟩ = some (.string (⟨#[]⟩ : ByteArray)) := (blk_cell BK550.out 4).trans rfl
   have hfs102 := blk_frozen BK550.out 4
   have hns102_0 := NB549_550.out
   have hms102_0 := NB550_549.out
   refine skip_ (w1 := ?_) (by rfl) rfl ?_ ?_
   rotate_left
   ·
    go_simp
    rfl
   refine hK.out _ _ ⟨((cell_far (p := ⟨gb550, _, none⟩) NB549_550.out _).trans (hHeld.1)), ((cell_far (p := ⟨gb550, _, none⟩) NB549_550.out _).trans (hHeld.2.1)), ((cell_far (p := ⟨gb550, _, none⟩) NB549_550.out _).trans (hHeld.2.2.1)), ((cell_far (p := ⟨gb550, _, none⟩) NB549_550.out _).trans (hHeld.2.2.2.1)), ((cell_far (p := ⟨gb550, _, none⟩) NB549_550.out _).trans (hHeld.2.2.2.2))⟩ (fun hHeld => ?_)
   clear hK K
   refine done_ (done_of HT_.out (by kernel_rfl)) ?_
   have hcz103_0 := cz_ BK549 0 (.int .i64 a0_0)
   have hcz103_1 := cz_ BK549 1 (.int .i64 a0_1)
   have hcz103_2 := cz_ BK549 2 (.int .i64 a0_2)
   have hcz103_3 := cz_ BK549 3 (.int .i64 a0_3)
   have hcz103_4 := cz_ BK549 4 (.string a0_4)
   have hfz103_0 := blk_frozen BK549.out 0
   have hfz103_1 := blk_frozen BK549.out 1
   have hfz103_2 := blk_frozen BK549.out 2
   have hfz103_3 := blk_frozen BK549.out 3
   have hfz103_4 := blk_frozen BK549.out 4
   have hcz104_0 := cz_ BK550 0 (.int .i64 a0_0)
   have hcz104_1 := cz_ BK550 1 (.int .i64 0)
   have hcz104_2 := cz_ BK550 2 (.int .i64 0)
   have hcz104_3 := cz_ BK550 3 (.int .i64 0)
   have hcz104_4 := cz_ BK550 4 (.string (⟨#[]⟩ : ByteArray))
   have hfz104_0 := blk_frozen BK550.out 0
   have hfz104_1 := blk_frozen BK550.out 1
   have hfz104_2 := blk_frozen BK550.out 2
   have hfz104_3 := blk_frozen BK550.out 3
   have hfz104_4 := blk_frozen BK550.out 4
   try go_wp2
   go_ret
   exact ⟨er_, pb_ HB⟩
  rw [if_neg c91] at H
  have c91b0 : (!(a0_3 == 0)) = false := by simpa using c91
  clear c91
  obtain rfl := Option.some.inj H
  go_enter Try.func60, Try.ntmps60
  try go_wp2_with (first | ((with_reducible refine gate_dst (N := 1) rfl ?_); refine bx_ 1 #[.int .i64 a0_0, .int .i64 a0_1, .int .i64 a0_2, .int .i64 a0_3, .string a0_4] 66 ?_; intro gb549 hg w105 hbox hb; have BK549 := Aside0.mk (hbox); have GW549 := gw_ hg HB; have GE549 := gw_ hg HB; replace HB := sb_ HB hb; clear hb hbox hg; have hcz106_0 := cz_ BK549 0 (.int .i64 a0_0); have hcz106_1 := cz_ BK549 1 (.int .i64 a0_1); have hcz106_2 := cz_ BK549 2 (.int .i64 a0_2); have hcz106_3 := cz_ BK549 3 (.int .i64 a0_3); have hcz106_4 := cz_ BK549 4 (.string a0_4); have hfz106_0 := blk_frozen BK549.out 0; have hfz106_1 := blk_frozen BK549.out 1; have hfz106_2 := blk_frozen BK549.out 2; have hfz106_3 := blk_frozen BK549.out 3; have hfz106_4 := blk_frozen BK549.out 4) | ((with_reducible refine gate_dst (N := 3) rfl ?_); refine bx_ 3 #[.int .i64 0, .int .i64 0, .int .i64 0, .int .i64 0, .string (⟨#[]⟩ : ByteArray)] 66 ?_; intro gb550 hg w107 hbox hb; have BK550 := Aside0.mk (hbox); have GW550 := gw_ hg HB; have GE550 := gw_ hg HB; replace HB := sb_ HB hb; have NB549_550 := nl_ hg BK549; have NB550_549 := ng_ hg BK549; replace BK549 := kb_ BK549 hb; clear hb hbox hg; have hnb108 := NB550_549.out; have hnc108 := NB549_550.out; have hcz109_0 := cz_ BK550 0 (.int .i64 0); have hcz109_1 := cz_ BK550 1 (.int .i64 0); have hcz109_2 := cz_ BK550 2 (.int .i64 0); have hcz109_3 := cz_ BK550 3 (.int .i64 0); have hcz109_4 := cz_ BK550 4 (.string (⟨#[]⟩ : ByteArray)); have hfz109_0 := blk_frozen BK550.out 0; have hfz109_1 := blk_frozen BK550.out 1; have hfz109_2 := blk_frozen BK550.out 2; have hfz109_3 := blk_frozen BK550.out 3; have hfz109_4 := blk_frozen BK550.out 4; have hcz110_0 := cz_ BK549 0 (.int .i64 a0_0); have hcz110_1 := cz_ BK549 1 (.int .i64 a0_1); have hcz110_2 := cz_ BK549 2 (.int .i64 a0_2); have hcz110_3 := cz_ BK549 3 (.int .i64 a0_3); have hcz110_4 := cz_ BK549 4 (.string a0_4); have hfz110_0 := blk_frozen BK549.out 0; have hfz110_1 := blk_frozen BK549.out 1; have hfz110_2 := blk_frozen BK549.out 2; have hfz110_3 := blk_frozen BK549.out 3; have hfz110_4 := blk_frozen BK549.out 4))
  have n0_ : Aside0 ((((((w107.setCell ⟨gb550, 0, none⟩ (.int .i64 a0_0)).setCell ⟨gb550, 1, none⟩ (.int .i64 0)).setCell ⟨gb550, 2, none⟩ (.int .i64 0)).setCell ⟨gb550, 3, none⟩ (.int .i64 0)).setCell ⟨gb550, 4, none⟩ (.string (⟨#[]⟩ : ByteArray))).heap[gb549]? = some (.cells #[.int .i64 a0_0, .int .i64 a0_1, .int .i64 a0_2, .int .i64 a0_3, .string a0_4] 66 (0, 0))) := ⟨by (with_reducible repeat (first | refine blk_drewN ?_ _ | refine blk_drew ?_ | refine blk_alloc ?_ _)); refine blk_far ?_ NB549_550.out _; (with_reducible repeat (first | refine blk_drewN ?_ _ | refine blk_drew ?_ | refine blk_alloc ?_ _)); refine blk_far ?_ NB549_550.out _; (with_reducible repeat (first | refine blk_drewN ?_ _ | refine blk_drew ?_ | refine blk_alloc ?_ _)); refine blk_far ?_ NB549_550.out _; (with_reducible repeat (first | refine blk_drewN ?_ _ | refine blk_drew ?_ | refine blk_alloc ?_ _)); refine blk_far ?_ NB549_550.out _; (with_reducible repeat (first | refine blk_drewN ?_ _ | refine blk_drew ?_ | refine blk_alloc ?_ _)); refine blk_far ?_ NB549_550.out _; (with_reducible repeat (first | refine blk_drewN ?_ _ | refine blk_drew ?_ | refine blk_alloc ?_ _)); exact BK549.out⟩
  have n1_ : Aside0 ((((((w107.setCell ⟨gb550, 0, none⟩ (.int .i64 a0_0)).setCell ⟨gb550, 1, none⟩ (.int .i64 0)).setCell ⟨gb550, 2, none⟩ (.int .i64 0)).setCell ⟨gb550, 3, none⟩ (.int .i64 0)).setCell ⟨gb550, 4, none⟩ (.string (⟨#[]⟩ : ByteArray))).heap[gb550]? = some (.cells #[.int .i64 a0_0, .int .i64 0, .int .i64 0, .int .i64 0, .string (⟨#[]⟩ : ByteArray)] 66 (0, 0))) := ⟨bq_ BK550⟩
  have n2_ : Aside0 (Below w.heap.size w (((((w107.setCell ⟨gb550, 0, none⟩ (.int .i64 a0_0)).setCell ⟨gb550, 1, none⟩ (.int .i64 0)).setCell ⟨gb550, 2, none⟩ (.int .i64 0)).setCell ⟨gb550, 3, none⟩ (.int .i64 0)).setCell ⟨gb550, 4, none⟩ (.string (⟨#[]⟩ : ByteArray)))) := ⟨pb_ HB⟩
  (try clear BK549)
  (try clear BK550)
  (try clear HB)
  generalize (((((w107.setCell ⟨gb550, 0, none⟩ (.int .i64 a0_0)).setCell ⟨gb550, 1, none⟩ (.int .i64 0)).setCell ⟨gb550, 2, none⟩ (.int .i64 0)).setCell ⟨gb550, 3, none⟩ (.int .i64 0)).setCell ⟨gb550, 4, none⟩ (.string (⟨#[]⟩ : ByteArray))) = w111 at n0_ n1_ n2_ ⊢
  have BK549 := n0_
  have BK550 := n1_
  have HB := n2_
  clear n0_ n1_ n2_
  replace BK549 := Aside0.mk (blk_drew BK549.out)
  replace BK550 := Aside0.mk (blk_drew BK550.out)
  replace HB := Aside0.mk (below_drew1 HB.out)
  refine start_ (n := 12) (S := fun w' => w'.cell? ⟨gb549, 0, none⟩ = some (.int .i64 a0_0) ∧ w'.cell? ⟨gb549, 1, none⟩ = some (.int .i64 a0_1) ∧ w'.cell? ⟨gb549, 2, none⟩ = some (.int .i64 a0_2) ∧ w'.cell? ⟨gb549, 3, none⟩ = some (.int .i64 a0_3) ∧ w'.cell? ⟨gb549, 4, none⟩ = some (.string a0_4)) (ds := []) #[false, false, false, false, false, false, false, false, false, false, false, false] (by kernel_rfl) rfl rfl ⟨cy_ BK549 0, cy_ BK549 1, cy_ BK549 2, cy_ BK549 3, cy_ BK549 4⟩ (fun hHeld => ?_); refine with_tabW segment_form.tab12 segment_form.bits12 (fun HT_ HW_ => ?_)
  generalize w111.drew = w112 at BK549 BK550 HB hHeld ⊢
  refine pu_ 0 30 HT_ ?_
  refine pu_ 2 32 HT_ ?_
  refine pu_ 4 34 HT_ ?_
  refine tk_ 1 31 HT_ HW_ hHeld rfl (Or.inl ⟨by rfl, by rintro w' ⟨s0, s1, s2, s3, s4⟩; go_simp; with_reducible rfl⟩) ?_
  refine pu_ 6 36 HT_ ?_
  refine tk_ 3 33 HT_ HW_ hHeld rfl (Or.inl ⟨by rfl, by rintro w' ⟨s0, s1, s2, s3, s4⟩; go_simp; with_reducible rfl⟩) ?_
  refine tk_ 5 35 HT_ HW_ hHeld rfl (Or.inl ⟨by rfl, by rintro w' ⟨s0, s1, s2, s3, s4⟩; go_simp; with_reducible rfl⟩) ?_
  refine one_ (i := 7) (N := none) #[true, true, true, true, true, true, true, true, false, false, false, false] rfl rfl (one_of HT_.out (by kernel_rfl)) (by decide) (fun K hK => ?_)
  have hs113 : w112.cell? ⟨gb550, 1, none⟩ = some (.int .i64 0) := (blk_cell BK550.out 1).trans rfl
  have hfs113 := blk_frozen BK550.out 1
  have hns113_0 := NB549_550.out
  have hms113_0 := NB550_549.out
  refine skip_ (w1 := ?_) (by rfl) rfl ?_ ?_
  rotate_left
  ·
   go_simp
   rfl
  refine hK.out _ _ ⟨((cell_far (p := ⟨gb550, _, none⟩) NB549_550.out _).trans (hHeld.1)), ((cell_far (p := ⟨gb550, _, none⟩) NB549_550.out _).trans (hHeld.2.1)), ((cell_far (p := ⟨gb550, _, none⟩) NB549_550.out _).trans (hHeld.2.2.1)), ((cell_far (p := ⟨gb550, _, none⟩) NB549_550.out _).trans (hHeld.2.2.2.1)), ((cell_far (p := ⟨gb550, _, none⟩) NB549_550.out _).trans (hHeld.2.2.2.2))⟩ (fun hHeld => ?_)
  clear hK K
  refine pu_ 8 37 HT_ ?_
  refine one_ (i := 9) (N := none) #[true, true, true, true, true, true, true, true, true, true, false, false] rfl rfl (one_of HT_.out (by kernel_rfl)) (by decide) (fun K hK => ?_)
  have hs114 : w112.cell? ⟨gb550, 2, none⟩ = some (.int .i64 0) := (blk_cell BK550.out 2).trans rfl
  have hfs114 := blk_frozen BK550.out 2
  have hns114_0 := NB549_550.out
  have hms114_0 := NB550_549.out
  refine skip_ (w1 := ?_) (by rfl) rfl ?_ ?_
  rotate_left
  ·
   go_simp
   rfl
  refine hK.out _ _ ⟨((cell_far (p := ⟨gb550, _, none⟩) NB549_550.out _).trans (hHeld.1)), ((cell_far (p := ⟨gb550, _, none⟩) NB549_550.out _).trans (hHeld.2.1)), ((cell_far (p := ⟨gb550, _, none⟩) NB549_550.out _).trans (hHeld.2.2.1)), ((cell_far (p := ⟨gb550, _, none⟩) NB549_550.out _).trans (hHeld.2.2.2.1)), ((cell_far (p := ⟨gb550, _, none⟩) NB549_550.out _).trans (hHeld.2.2.2.2))⟩ (fun hHeld => ?_)
  clear hK K
  refine pu_ 10 38 HT_ ?_
  refine one_ (i := 11) (N := none) #[true, true, true, true, true, true, true, true, true, true, true, true] rfl rfl (one_of HT_.out (by kernel_rfl)) (by decide) (fun K hK => ?_)
  have hs115 : w112.cell? ⟨gb550, 4, none⟩ = some (.string (⟨#[]⟩ : ByteArray)) := (blk_cell BK550.out 4).trans rfl
  have hfs115 := blk_frozen BK550.out 4
  have hns115_0 := NB549_550.out
  have hms115_0 := NB550_549.out
  refine skip_ (w1 := ?_) (by rfl) rfl ?_ ?_
  rotate_left
  ·
   go_simp
   rfl
  refine hK.out _ _ ⟨((cell_far (p := ⟨gb550, _, none⟩) NB549_550.out _).trans (hHeld.1)), ((cell_far (p := ⟨gb550, _, none⟩) NB549_550.out _).trans (hHeld.2.1)), ((cell_far (p := ⟨gb550, _, none⟩) NB549_550.out _).trans (hHeld.2.2.1)), ((cell_far (p := ⟨gb550, _, none⟩) NB549_550.out _).trans (hHeld.2.2.2.1)), ((cell_far (p := ⟨gb550, _, none⟩) NB549_550.out _).trans (hHeld.2.2.2.2))⟩ (fun hHeld => ?_)
  clear hK K
  refine done_ (done_of HT_.out (by kernel_rfl)) ?_
  have hcz116_0 := cz_ BK549 0 (.int .i64 a0_0)
  have hcz116_1 := cz_ BK549 1 (.int .i64 a0_1)
  have hcz116_2 := cz_ BK549 2 (.int .i64 a0_2)
  have hcz116_3 := cz_ BK549 3 (.int .i64 a0_3)
  have hcz116_4 := cz_ BK549 4 (.string a0_4)
  have hfz116_0 := blk_frozen BK549.out 0
  have hfz116_1 := blk_frozen BK549.out 1
  have hfz116_2 := blk_frozen BK549.out 2
  have hfz116_3 := blk_frozen BK549.out 3
  have hfz116_4 := blk_frozen BK549.out 4
  have hcz117_0 := cz_ BK550 0 (.int .i64 a0_0)
  have hcz117_1 := cz_ BK550 1 (.int .i64 0)
  have hcz117_2 := cz_ BK550 2 (.int .i64 0)
  have hcz117_3 := cz_ BK550 3 (.int .i64 0)
  have hcz117_4 := cz_ BK550 4 (.string (⟨#[]⟩ : ByteArray))
  have hfz117_0 := blk_frozen BK550.out 0
  have hfz117_1 := blk_frozen BK550.out 1
  have hfz117_2 := blk_frozen BK550.out 2
  have hfz117_3 := blk_frozen BK550.out 3
  have hfz117_4 := blk_frozen BK550.out 4
  try go_wp2
  go_ret
  exact ⟨er_, pb_ HB⟩
 rw [if_neg c90] at H
 have c90b0 : (a0_0 == 4) = false := beq_eq_false_iff_ne.mpr c90
 have c90b1 : (a0_0 != 4) = true := bne_iff_ne.mpr c90
 obtain rfl := Option.some.inj H
 go_enter Try.func60, Try.ntmps60
 go_wp2_with (first | ((with_reducible refine gate_dst (N := 1) rfl ?_); refine bx_ 1 #[.int .i64 a0_0, .int .i64 a0_1, .int .i64 a0_2, .int .i64 a0_3, .string a0_4] 66 ?_; intro gb549 hg w118 hbox hb; have BK549 := Aside0.mk (hbox); have GW549 := gw_ hg HB; have GE549 := gw_ hg HB; replace HB := sb_ HB hb; clear hb hbox hg; have hcz119_0 := cz_ BK549 0 (.int .i64 a0_0); have hcz119_1 := cz_ BK549 1 (.int .i64 a0_1); have hcz119_2 := cz_ BK549 2 (.int .i64 a0_2); have hcz119_3 := cz_ BK549 3 (.int .i64 a0_3); have hcz119_4 := cz_ BK549 4 (.string a0_4); have hfz119_0 := blk_frozen BK549.out 0; have hfz119_1 := blk_frozen BK549.out 1; have hfz119_2 := blk_frozen BK549.out 2; have hfz119_3 := blk_frozen BK549.out 3; have hfz119_4 := blk_frozen BK549.out 4) | ((with_reducible refine gate_dst (N := 3) rfl ?_); refine bx_ 3 #[.int .i64 0, .int .i64 0, .int .i64 0, .int .i64 0, .string (⟨#[]⟩ : ByteArray)] 66 ?_; intro gb550 hg w120 hbox hb; have BK550 := Aside0.mk (hbox); have GW550 := gw_ hg HB; have GE550 := gw_ hg HB; replace HB := sb_ HB hb; have NB549_550 := nl_ hg BK549; have NB550_549 := ng_ hg BK549; replace BK549 := kb_ BK549 hb; clear hb hbox hg; have hnb121 := NB550_549.out; have hnc121 := NB549_550.out; have hcz122_0 := cz_ BK550 0 (.int .i64 0); have hcz122_1 := cz_ BK550 1 (.int .i64 0); have hcz122_2 := cz_ BK550 2 (.int .i64 0); have hcz122_3 := cz_ BK550 3 (.int .i64 0); have hcz122_4 := cz_ BK550 4 (.string (⟨#[]⟩ : ByteArray)); have hfz122_0 := blk_frozen BK550.out 0; have hfz122_1 := blk_frozen BK550.out 1; have hfz122_2 := blk_frozen BK550.out 2; have hfz122_3 := blk_frozen BK550.out 3; have hfz122_4 := blk_frozen BK550.out 4; have hcz123_0 := cz_ BK549 0 (.int .i64 a0_0); have hcz123_1 := cz_ BK549 1 (.int .i64 a0_1); have hcz123_2 := cz_ BK549 2 (.int .i64 a0_2); have hcz123_3 := cz_ BK549 3 (.int .i64 a0_3); have hcz123_4 := cz_ BK549 4 (.string a0_4); have hfz123_0 := blk_frozen BK549.out 0; have hfz123_1 := blk_frozen BK549.out 1; have hfz123_2 := blk_frozen BK549.out 2; have hfz123_3 := blk_frozen BK549.out 3; have hfz123_4 := blk_frozen BK549.out 4))
 go_ret
 exact ⟨er_, pb_ HB⟩
end Go.Proofs.Ytoabahlaicgmjaa.X
end
