-- Texts of this claim joined by merge.py, a program of its author; what this claim does not reach is left out.
import Derived.Test.YtoabahlaicgmjaaMSegmentApplies10
section
namespace Go.Proofs.Ytoabahlaicgmjaa.X
open Go.Proofs.Ytoabahlaicgmjaa.XW Go.Proofs.Ytoabahlaicgmjaa.XS
open Go.RowKit Go.Proofs.YtoabahlaicgmjaaW.PrintWords Go.Proofs.YtoabahlaicgmjaaW.PrintLast Go.Proofs.YtoabahlaicgmjaaW.PrintMore
attribute [local go_sem] max2_int min2_int max_two min_two max_three min_three max_four min_four   -- for this text's walks alone
set_option linter.unusedVariables false
set_option linter.unusedSimpArgs false

/-! ### midrangeref04_Written: function 29 -/
def midrangeref04_Written.f (k : Nat) (l0_0 : List (S56)) (a0_1 : Int) (a1_0 : Int) (a1_1 : Int) (a2 : ByteArray) : Option ((List (S56)) × Int × Int × ByteArray × Int) := (midrangeref04_reach.f k l0_0 a0_1 a1_0 a1_1 (a2.size : Int)).bind fun bt475 => (if bt475.2 = 0 then (if 0 ≤ bt475.1 then (if bt475.1 < (l0_0.length : Int) then ((midrangebase_Patched.f ((rd_T56 l0_0 bt475.1).f1) a1_1 a2).bind fun t478 => ((midrangeref04_with.f l0_0 a0_1 bt475.1 t478).bind fun bt479 => (some (bt479.1, bt479.2, 0, (⟨#[]⟩ : ByteArray), 0)))) else (none)) else (none)) else (some (([] : List (S56)), 0, 0, (⟨#[]⟩ : ByteArray), bt475.2)))
def midrangeref04_Written.T4 : Bool × List (List Nat × List Nat) := (true, [([], []), ([], []), ([], []), ([2], [2]), ([], []), ([3, 4], [3, 4]), ([5], [5]), ([6], [6]), ([], []), ([8], [8]), ([], []), ([7, 9, 10], [7, 9, 10]), ([0, 1, 11, 11], [0, 1, 11]), ([12], [12]), ([13, 12, 0, 1, 2, 3, 4, 5, 6, 7, 8, 9, 10, 11, 12, 13], [13])])
def midrangeref04_Written.B4 : List Nat := [0, 0, 0, 4, 0, 28, 60, 124, 0, 256, 0, 2044, 4095, 8191, 16383]
theorem midrangeref04_Written.tab4 : rtab .any (opsOf Try.f29 4) = midrangeref04_Written.T4 := by kernel_rfl
theorem midrangeref04_Written.bits4 : waitsOk midrangeref04_Written.T4.2 midrangeref04_Written.B4 = true := by kernel_rfl
set_option maxHeartbeats 8000000 in
set_option maxRecDepth 100000 in
theorem midrangeref04_Written.calls (k : Nat) (A0_0 : Option Addr) (c0_0 : Nat) (l0_0 : List (S56)) (a0_1 : Int) (a1_0 : Int) (a1_1 : Int) (a2 : ByteArray) (r1 : List (S56)) (r2 : Int) (r3 : Int) (r4 : ByteArray) (r5 : Int) (w : World) (hr0_0 : Kd.C k56 w A0_0 l0_0.length l0_0) (hc0_0 : l0_0.length ≤ c0_0) (h : midrangeref04_Written.f k l0_0 a0_1 a1_0 a1_1 a2 = some (r1, r2, r3, r4, r5)) :
    Calls Try.prog 29 #[.agg #[.slice A0_0 l0_0.length c0_0, .int .i64 a0_1], .agg #[.int .i64 a1_0, .int .i64 a1_1], .string a2] w fun e w' => ∃ v0_ : Value, e = .returned (.agg #[v0_, .int .i64 r2, .int .i64 r3, .string r4, .int .i64 r5]) ∧ Kd.R k56 56 w' w.heap.size (fun _ => True) v0_ r1 ∧ Below w.heap.size w w' := by
  have hu24 := Try.underlying24
  have hu46 := Try.underlying46
  have hu34 := Try.underlying34
  have HR0_0 := Aside0.mk hr0_0
  have HC0_0 := Aside0.mk hc0_0
  clear hr0_0 hc0_0
  have HB := Aside0.mk (Below.refl w.heap.size w)
  have H : ((midrangeref04_reach.f k l0_0 a0_1 a1_0 a1_1 (a2.size : Int)).bind fun bt475 => (if bt475.2 = 0 then (if 0 ≤ bt475.1 then (if bt475.1 < (l0_0.length : Int) then ((midrangebase_Patched.f ((rd_T56 l0_0 bt475.1).f1) a1_1 a2).bind fun t478 => ((midrangeref04_with.f l0_0 a0_1 bt475.1 t478).bind fun bt479 => (some (bt479.1, bt479.2, 0, (⟨#[]⟩ : ByteArray), 0)))) else (none)) else (none)) else (some (([] : List (S56)), 0, 0, (⟨#[]⟩ : ByteArray), bt475.2)))) = some (r1, r2, r3, r4, r5) := h
  clear h
  replace H := Option.bind_eq_some_iff.mp H
  obtain ⟨⟨t475, t476⟩, A40, H⟩ := H
  replace H : (if t476 = 0 then (if 0 ≤ t475 then (if t475 < (l0_0.length : Int) then ((midrangebase_Patched.f ((rd_T56 l0_0 t475).f1) a1_1 a2).bind fun t478 => ((midrangeref04_with.f l0_0 a0_1 t475 t478).bind fun bt479 => (some (bt479.1, bt479.2, 0, (⟨#[]⟩ : ByteArray), 0)))) else (none)) else (none)) else (some (([] : List (S56)), 0, 0, (⟨#[]⟩ : ByteArray), t476))) = some (r1, r2, r3, r4, r5) := H
  have A4 := Aside0.mk A40
  clear A40
  by_cases c5 : t476 = 0
  · rw [if_pos c5] at H
    have c5b0 : (t476 == 0) = true := beq_iff_eq.mpr c5
    have c5b1 : (t476 != 0) = false := bne_eq_false_iff_eq.mpr c5
    clear c5
    by_cases c6 : 0 ≤ t475
    · rw [if_pos c6] at H
      have c6b0 : decide (0 ≤ t475) = true := decide_eq_true c6
      clear c6
      by_cases c7 : t475 < (l0_0.length : Int)
      · rw [if_pos c7] at H
        have c7b0 : decide (t475 < (l0_0.length : Int)) = true := decide_eq_true c7
        clear c7
        replace H := Option.bind_eq_some_iff.mp H
        obtain ⟨t478, A80, H⟩ := H
        replace H : ((midrangeref04_with.f l0_0 a0_1 t475 t478).bind fun bt479 => (some (bt479.1, bt479.2, 0, (⟨#[]⟩ : ByteArray), 0))) = some (r1, r2, r3, r4, r5) := H
        have A8 := Aside0.mk A80
        clear A80
        replace H := Option.bind_eq_some_iff.mp H
        obtain ⟨⟨t479, t482⟩, A90, H⟩ := H
        replace H : (some (t479, t482, 0, (⟨#[]⟩ : ByteArray), 0)) = some (r1, r2, r3, r4, r5) := H
        have A9 := Aside0.mk A90
        clear A90
        simp only [Option.some.injEq, Prod.mk.injEq] at H
        obtain ⟨rfl, rfl, rfl, rfl, rfl⟩ := H
        go_enter Try.func29, Try.ntmps29
        try go_wp2_with (first | ((with_reducible refine gate_dst (N := 3) rfl ?_); refine box_event ?hg (N := 3) ?hd (cs := #[.slice A0_0 l0_0.length c0_0, .int .i64 a0_1]) (t := 24) ?hr ?_; (case hd => rfl); (case hg => rfl); (case hr => first | (go_simp; done) | (go_simp; rfl)); intro gb472 hg w10 hbox hb; have BK472 := Aside0.mk (hbox); have GW472 := gw_ hg HB; have GE472 := gw_ hg HB; replace HB := sb_ HB hb; clear hb hbox hg) | ((with_reducible refine gate_dst (N := 4) rfl ?_); refine box_event ?hg (N := 4) ?hd (cs := #[.int .i64 a1_0, .int .i64 a1_1]) (t := 46) ?hr ?_; (case hd => rfl); (case hg => rfl); (case hr => first | (go_simp; done) | (go_simp; rfl)); intro gb473 hg w11 hbox hb; have BK473 := Aside0.mk (hbox); have GW473 := gw_ hg HB; have GE473 := gw_ hg HB; replace HB := sb_ HB hb; have NB472_473 := nl_ hg BK472; have NB473_472 := ng_ hg BK472; replace BK472 := kb_ BK472 hb; clear hb hbox hg) | ((with_reducible refine gate_dst (N := 6) rfl ?_); refine box_event ?hg (N := 6) ?hd (cs := #[.slice none 0 0, .int .i64 0, .int .i64 0, .string (⟨#[]⟩ : ByteArray), .int .i64 0]) (t := 34) ?hr ?_; (case hd => rfl); (case hg => rfl); (case hr => first | (go_simp; done) | (go_simp; rfl)); intro gb474 hg w12 hbox hb; have BK474 := Aside0.mk (hbox); have GW474 := gw_ hg HB; have GE474 := gw_ hg HB; replace HB := sb_ HB hb; have NB472_474 := nl_ hg BK472; have NB474_472 := ng_ hg BK472; replace BK472 := kb_ BK472 hb; have NB473_474 := nl_ hg BK473; have NB474_473 := ng_ hg BK473; replace BK473 := kb_ BK473 hb; clear hb hbox hg; have hnb13 := NB472_473.out; have hnc13 := NB473_472.out; have hnb14 := NB472_474.out; have hnc14 := NB474_472.out; have hcz15_0 := cz_ BK472 0 (.slice A0_0 l0_0.length c0_0); have hcz15_1 := cz_ BK472 1 (.int .i64 a0_1); have hfz15_0 := blk_frozen BK472.out 0; have hfz15_1 := blk_frozen BK472.out 1; have hnb16 := NB473_474.out; have hnc16 := NB474_473.out; have hcz17_0 := cz_ BK473 0 (.int .i64 a1_0); have hcz17_1 := cz_ BK473 1 (.int .i64 a1_1); have hfz17_0 := blk_frozen BK473.out 0; have hfz17_1 := blk_frozen BK473.out 1) | ((with_reducible refine gate_callee (f := 50) rfl ?_); refine goesL_ (some 14) rfl rfl Try.func50 (by kernel_rfl) rfl #[.agg #[.slice A0_0 l0_0.length c0_0, .int .i64 a0_1], .agg #[.int .i64 a1_0, .int .i64 a1_1], .int .i64 (a2.size : Int)] rfl (by (try simp only [List.map_toArray, List.map_cons, List.map_nil]); first | done | rfl | (simp only [List.length_drop, List.length_take]; rfl)) ?_; (with_reducible refine (midrangeref04_reach.calls k _ _ l0_0 a0_1 a1_0 a1_1 (a2.size : Int) t475 t476 _ ?side1 ?side2 A4.out).mono ?_); (case side1 => exact pc_ (Kd.C_below HR0_0.out HB.out)); (case side2 => exact HC0_0.out); rintro e w18 ⟨rfl, hb⟩; refine ⟨_, rfl, ?_⟩; replace BK472 := kb_ BK472 hb; replace BK473 := kb_ BK473 hb; replace BK474 := kb_ BK474 hb; replace HB := sb_ HB hb; (try clear hb); (try clear hb2); (try clear hk); (try clear hi)))
        replace BK472 := Aside0.mk (blk_drew BK472.out)
        replace BK473 := Aside0.mk (blk_drew BK473.out)
        replace BK474 := Aside0.mk (blk_drew BK474.out)
        replace HB := Aside0.mk (below_drew1 HB.out)
        have p477 : 0 ≤ (t475 : Int) := ct_
        have q477 : t475 < (l0_0.length : Int) := ct_
        obtain ⟨ad477, e477, hx477_0, hx477_1⟩ := at_T56 HR0_0.out t475 p477 q477
        have hw477_1 := hx477_1
        have hw477_0 := hx477_0
        cases e477
        replace hx477_0 := (HB.out.cell (World.block_lt_of_cell? w _ hx477_0)).trans hx477_0
        replace hx477_1 := (HB.out.cell (World.block_lt_of_cell? w _ hx477_1)).trans hx477_1
        replace p477 := eq_true p477
        replace q477 := eq_true q477
        refine start_ (n := 15) (S := fun w' => w'.cell? ⟨gb472, 0, none⟩ = some (.slice (some ad477) l0_0.length c0_0) ∧ w'.cell? ⟨gb472, 1, none⟩ = some (.int .i64 a0_1) ∧ w'.cell? ⟨gb473, 0, none⟩ = some (.int .i64 a1_0) ∧ w'.cell? ⟨gb473, 1, none⟩ = some (.int .i64 a1_1) ∧ w'.cell? (ad477.add ((t475).toNat * 2)) = some (.int .i64 ((rd_T56 l0_0 t475).f0)) ∧ w'.cell? ⟨(ad477.add ((t475).toNat * 2)).block, (ad477.add ((t475).toNat * 2)).off + 1, none⟩ = some (.string ((rd_T56 l0_0 t475).f1))) (ds := []) #[false, false, false, false, false, false, false, false, false, false, false, false, false, false, false] (by kernel_rfl) rfl rfl ⟨(blk_cell BK472.out 0).trans rfl, (blk_cell BK472.out 1).trans rfl, (blk_cell BK473.out 0).trans rfl, (blk_cell BK473.out 1).trans rfl, ((HB.out.cell (World.block_lt_of_cell? w _ hw477_0)).trans hw477_0), ((HB.out.cell (World.block_lt_of_cell? w _ hw477_1)).trans hw477_1)⟩ (fun hHeld => ?_); refine with_tabW midrangeref04_Written.tab4 midrangeref04_Written.bits4 (fun HT_ HW_ => ?_)
        generalize w18.drew = w19 at BK472 BK473 BK474 HB hx477_0 hx477_1 hHeld ⊢
        refine pu_ 1 22 HT_ ?_
        refine pu_ 2 23 HT_ ?_
        refine pu_ 4 25 HT_ ?_
        refine pu_ 8 29 HT_ ?_
        refine pu_ 10 31 HT_ ?_
        refine take_ (i := 0) (N := some 21) (v := ?_) (a' := ?_) #[true, true, true, false, true, false, false, false, true, false, true, false, false, false, false] rfl rfl (take_ofW HT_.out HW_.out (by kernel_rfl)) (fun _ _ _ h => h) (Or.inl ⟨by rfl, ?_⟩) hHeld ?_ ?_
        rotate_left
        · rintro w' ⟨s0, s1, s2, s3, s4, s5⟩
          go_simp
          with_reducible rfl
        rotate_left
        · simp only [Act.put, List.setIfInBounds_toArray, List.set_cons_zero, List.set_cons_succ, i64_w, i32_w]
          rfl
        refine take_ (i := 3) (N := some 24) (v := ?_) (a' := ?_) #[true, true, true, true, true, false, false, false, true, false, true, false, false, false, false] rfl rfl (take_ofW HT_.out HW_.out (by kernel_rfl)) (fun _ _ _ h => h) (Or.inl ⟨by rfl, ?_⟩) hHeld ?_ ?_
        rotate_left
        · rintro w' ⟨s0, s1, s2, s3, s4, s5⟩
          go_simp
          with_reducible rfl
        rotate_left
        · simp only [Act.put, List.setIfInBounds_toArray, List.set_cons_zero, List.set_cons_succ, i64_w, i32_w]
          rfl
        refine pu_ 5 26 HT_ ?_
        refine pu_ 6 27 HT_ ?_
        refine take_ (i := 7) (N := some 28) (v := ?_) (a' := ?_) #[true, true, true, true, true, true, true, true, true, false, true, false, false, false, false] rfl rfl (take_ofW HT_.out HW_.out (by kernel_rfl)) (fun _ _ _ h => h) (Or.inl ⟨by rfl, ?_⟩) hHeld ?_ ?_
        rotate_left
        · rintro w' ⟨s0, s1, s2, s3, s4, s5⟩
          go_simp
          with_reducible rfl
        rotate_left
        · simp only [Act.put, List.setIfInBounds_toArray, List.set_cons_zero, List.set_cons_succ, i64_w, i32_w]
          rfl
        refine take_ (i := 9) (N := some 30) (v := ?_) (a' := ?_) #[true, true, true, true, true, true, true, true, true, true, true, false, false, false, false] rfl rfl (take_ofW HT_.out HW_.out (by kernel_rfl)) (fun _ _ _ h => h) (Or.inl ⟨by rfl, ?_⟩) hHeld ?_ ?_
        rotate_left
        · rintro w' ⟨s0, s1, s2, s3, s4, s5⟩
          go_simp
          with_reducible rfl
        rotate_left
        · simp only [Act.put, List.setIfInBounds_toArray, List.set_cons_zero, List.set_cons_succ, i64_w, i32_w]
          rfl
        refine one_ (i := 11) (N := some 32) #[true, true, true, true, true, true, true, true, true, true, true, true, false, false, false] rfl rfl (one_of HT_.out (by kernel_rfl)) (by decide) (fun K hK => ?_)
        refine goes_ Try.func51 (by kernel_rfl) rfl #[.string ((rd_T56 l0_0 t475).f1), .int .i64 a1_1, .string a2] (by rfl) rfl rfl (by (try simp only [List.map_toArray, List.map_cons, List.map_nil]); first | done | rfl | (simp only [List.length_drop, List.length_take]; rfl)) ?_
        with_reducible refine (midrangebase_Patched.calls ((rd_T56 l0_0 t475).f1) a1_1 a2 t478 _ A8.out).mono ?_
        rintro e w' ⟨rfl, ⟨nd, rfl⟩⟩
        refine ⟨_, rfl, ?_⟩
        refine hK.out _ _ ⟨(blk_cell BK472.out 0).trans rfl, (blk_cell BK472.out 1).trans rfl, (blk_cell BK473.out 0).trans rfl, (blk_cell BK473.out 1).trans rfl, ((HB.out.cell (World.block_lt_of_cell? w _ hw477_0)).trans hw477_0), ((HB.out.cell (World.block_lt_of_cell? w _ hw477_1)).trans hw477_1)⟩ (fun hHeld => ?_)
        clear hK K
        refine norm_ (a' := ?_) ?_ ?_
        rotate_left
        · show Act.put _ (some 32) _ = _
          simp only [Act.put, List.setIfInBounds_toArray, List.set_cons_zero, List.set_cons_succ, i64_w, i32_w]
          rfl
        refine one_ (i := 12) (N := some 33) #[true, true, true, true, true, true, true, true, true, true, true, true, true, false, false] rfl rfl (one_of HT_.out (by kernel_rfl)) (by decide) (fun K hK => ?_)
        refine goes_ Try.func48 (by kernel_rfl) rfl #[.agg #[.slice (some ad477) l0_0.length c0_0, .int .i64 a0_1], .int .i64 t475, .string t478] (by rfl) rfl rfl (by (try simp only [List.map_toArray, List.map_cons, List.map_nil]); first | done | rfl | (simp only [List.length_drop, List.length_take]; rfl)) ?_
        with_reducible refine (midrangeref04_with.calls _ _ l0_0 a0_1 t475 t478 t479 t482 _ ?side1 ?side2 A9.out).mono ?_
        (case side1 => exact pc_ (Kd.C_below HR0_0.out (pb_ HB)))
        (case side2 => exact HC0_0.out)
        rintro e w20 ⟨v480, rfl, ho0, hb⟩
        refine ⟨_, rfl, ?_⟩
        have HO481 := Aside0.mk (Kd.R_lower ho0 (below_size (pb_ HB)))
        replace BK472 := kb_ BK472 hb
        replace BK473 := kb_ BK473 hb
        replace BK474 := kb_ BK474 hb
        replace HB := sb_ HB hb
        (try clear hb)
        (try clear hb2)
        (try clear hk)
        (try clear hi)
        (try clear ho0)
        obtain ⟨Ao21, co21, eo21⟩ := Kd.R_slice HO481.out
        (first | subst eo21 | (injection eo21 with f1_ f2_ f3_; have f4_ := f1_.symm; have f5_ := f3_.symm; clear f1_ f2_ f3_; subst f4_; subst f5_))
        refine hK.out _ _ ⟨(blk_cell BK472.out 0).trans rfl, (blk_cell BK472.out 1).trans rfl, (blk_cell BK473.out 0).trans rfl, (blk_cell BK473.out 1).trans rfl, ((HB.out.cell (World.block_lt_of_cell? w _ hw477_0)).trans hw477_0), ((HB.out.cell (World.block_lt_of_cell? w _ hw477_1)).trans hw477_1)⟩ (fun hHeld => ?_)
        clear hK K
        refine norm_ (a' := ?_) ?_ ?_
        rotate_left
        · show Act.put _ (some 33) _ = _
          simp only [Act.put, List.setIfInBounds_toArray, List.set_cons_zero, List.set_cons_succ, i64_w, i32_w]
          rfl
        refine pu_ 13 34 HT_ ?_
        refine one_ (i := 14) (N := none) #[true, true, true, true, true, true, true, true, true, true, true, true, true, true, true] rfl rfl (one_of HT_.out (by kernel_rfl)) (by decide) (fun K hK => ?_)
        have hs22 : w20.cell? ⟨gb474, 0, none⟩ = some (.slice none 0 0) := (blk_cell BK474.out 0).trans rfl
        have hfs22 := blk_frozen BK474.out 0
        have hns22_0 := NB472_474.out
        have hns22_1 := NB473_474.out
        have hms22_0 := NB474_472.out
        have hms22_1 := NB474_473.out
        have hs23 : w20.cell? ⟨gb474, 1, none⟩ = some (.int .i64 0) := (blk_cell BK474.out 1).trans rfl
        have hfs23 := blk_frozen BK474.out 1
        have hns23_0 := NB472_474.out
        have hns23_1 := NB473_474.out
        have hms23_0 := NB474_472.out
        have hms23_1 := NB474_473.out
        have hs24 : w20.cell? ⟨gb474, 2, none⟩ = some (.int .i64 0) := (blk_cell BK474.out 2).trans rfl
        have hfs24 := blk_frozen BK474.out 2
        have hns24_0 := NB472_474.out
        have hns24_1 := NB473_474.out
        have hms24_0 := NB474_472.out
        have hms24_1 := NB474_473.out
        have hs25 : w20.cell? ⟨gb474, 3, none⟩ = some (.string (⟨#[]⟩ : ByteArray)) := (blk_cell BK474.out 3).trans rfl
        have hfs25 := blk_frozen BK474.out 3
        have hns25_0 := NB472_474.out
        have hns25_1 := NB473_474.out
        have hms25_0 := NB474_472.out
        have hms25_1 := NB474_473.out
        have hs26 : w20.cell? ⟨gb474, 4, none⟩ = some (.int .i64 0) := (blk_cell BK474.out 4).trans rfl
        have hfs26 := blk_frozen BK474.out 4
        have hns26_0 := NB472_474.out
        have hns26_1 := NB473_474.out
        have hms26_0 := NB474_472.out
        have hms26_1 := NB474_473.out
        refine skip_ (w1 := ?_) (by rfl) rfl ?_ ?_
        rotate_left
        · go_simp
          rfl
        refine hK.out _ _ ⟨((cell_far (p := ⟨gb474, _, none⟩) NB472_474.out _).trans (((cell_far (p := ⟨gb474, _, none⟩) NB472_474.out _).trans (((cell_far (p := ⟨gb474, _, none⟩) NB472_474.out _).trans (((cell_far (p := ⟨gb474, _, none⟩) NB472_474.out _).trans (((cell_far (p := ⟨gb474, _, none⟩) NB472_474.out _).trans (hHeld.1)))))))))), ((cell_far (p := ⟨gb474, _, none⟩) NB472_474.out _).trans (((cell_far (p := ⟨gb474, _, none⟩) NB472_474.out _).trans (((cell_far (p := ⟨gb474, _, none⟩) NB472_474.out _).trans (((cell_far (p := ⟨gb474, _, none⟩) NB472_474.out _).trans (((cell_far (p := ⟨gb474, _, none⟩) NB472_474.out _).trans (hHeld.2.1)))))))))), ((cell_far (p := ⟨gb474, _, none⟩) NB473_474.out _).trans (((cell_far (p := ⟨gb474, _, none⟩) NB473_474.out _).trans (((cell_far (p := ⟨gb474, _, none⟩) NB473_474.out _).trans (((cell_far (p := ⟨gb474, _, none⟩) NB473_474.out _).trans (((cell_far (p := ⟨gb474, _, none⟩) NB473_474.out _).trans (hHeld.2.2.1)))))))))), ((cell_far (p := ⟨gb474, _, none⟩) NB473_474.out _).trans (((cell_far (p := ⟨gb474, _, none⟩) NB473_474.out _).trans (((cell_far (p := ⟨gb474, _, none⟩) NB473_474.out _).trans (((cell_far (p := ⟨gb474, _, none⟩) NB473_474.out _).trans (((cell_far (p := ⟨gb474, _, none⟩) NB473_474.out _).trans (hHeld.2.2.2.1)))))))))), ((cell_far (p := ⟨gb474, _, none⟩) (by first | exact Nat.ne_of_lt (Nat.lt_of_lt_of_le (by have := World.block_lt_of_cell? _ _ hw477_0; first | rwa [add_block] at this | exact this) GW474.out) | (rw [add_block]; exact Nat.ne_of_lt (Nat.lt_of_lt_of_le (by have := World.block_lt_of_cell? _ _ hw477_0; first | rwa [add_block] at this | exact this) GW474.out)) | (show (Addr.add _ _).block ≠ _; rw [add_block]; exact Nat.ne_of_lt (Nat.lt_of_lt_of_le (by have := World.block_lt_of_cell? _ _ hw477_0; first | rwa [add_block] at this | exact this) GW474.out)) | (dsimp only; exact Nat.ne_of_lt (Nat.lt_of_lt_of_le (by have := World.block_lt_of_cell? _ _ hw477_0; first | rwa [add_block] at this | exact this) GW474.out))) _).trans (((cell_far (p := ⟨gb474, _, none⟩) (by first | exact Nat.ne_of_lt (Nat.lt_of_lt_of_le (by have := World.block_lt_of_cell? _ _ hw477_0; first | rwa [add_block] at this | exact this) GW474.out) | (rw [add_block]; exact Nat.ne_of_lt (Nat.lt_of_lt_of_le (by have := World.block_lt_of_cell? _ _ hw477_0; first | rwa [add_block] at this | exact this) GW474.out)) | (show (Addr.add _ _).block ≠ _; rw [add_block]; exact Nat.ne_of_lt (Nat.lt_of_lt_of_le (by have := World.block_lt_of_cell? _ _ hw477_0; first | rwa [add_block] at this | exact this) GW474.out)) | (dsimp only; exact Nat.ne_of_lt (Nat.lt_of_lt_of_le (by have := World.block_lt_of_cell? _ _ hw477_0; first | rwa [add_block] at this | exact this) GW474.out))) _).trans (((cell_far (p := ⟨gb474, _, none⟩) (by first | exact Nat.ne_of_lt (Nat.lt_of_lt_of_le (by have := World.block_lt_of_cell? _ _ hw477_0; first | rwa [add_block] at this | exact this) GW474.out) | (rw [add_block]; exact Nat.ne_of_lt (Nat.lt_of_lt_of_le (by have := World.block_lt_of_cell? _ _ hw477_0; first | rwa [add_block] at this | exact this) GW474.out)) | (show (Addr.add _ _).block ≠ _; rw [add_block]; exact Nat.ne_of_lt (Nat.lt_of_lt_of_le (by have := World.block_lt_of_cell? _ _ hw477_0; first | rwa [add_block] at this | exact this) GW474.out)) | (dsimp only; exact Nat.ne_of_lt (Nat.lt_of_lt_of_le (by have := World.block_lt_of_cell? _ _ hw477_0; first | rwa [add_block] at this | exact this) GW474.out))) _).trans (((cell_far (p := ⟨gb474, _, none⟩) (by first | exact Nat.ne_of_lt (Nat.lt_of_lt_of_le (by have := World.block_lt_of_cell? _ _ hw477_0; first | rwa [add_block] at this | exact this) GW474.out) | (rw [add_block]; exact Nat.ne_of_lt (Nat.lt_of_lt_of_le (by have := World.block_lt_of_cell? _ _ hw477_0; first | rwa [add_block] at this | exact this) GW474.out)) | (show (Addr.add _ _).block ≠ _; rw [add_block]; exact Nat.ne_of_lt (Nat.lt_of_lt_of_le (by have := World.block_lt_of_cell? _ _ hw477_0; first | rwa [add_block] at this | exact this) GW474.out)) | (dsimp only; exact Nat.ne_of_lt (Nat.lt_of_lt_of_le (by have := World.block_lt_of_cell? _ _ hw477_0; first | rwa [add_block] at this | exact this) GW474.out))) _).trans (((cell_far (p := ⟨gb474, _, none⟩) (by first | exact Nat.ne_of_lt (Nat.lt_of_lt_of_le (by have := World.block_lt_of_cell? _ _ hw477_0; first | rwa [add_block] at this | exact this) GW474.out) | (rw [add_block]; exact Nat.ne_of_lt (Nat.lt_of_lt_of_le (by have := World.block_lt_of_cell? _ _ hw477_0; first | rwa [add_block] at this | exact this) GW474.out)) | (show (Addr.add _ _).block ≠ _; rw [add_block]; exact Nat.ne_of_lt (Nat.lt_of_lt_of_le (by have := World.block_lt_of_cell? _ _ hw477_0; first | rwa [add_block] at this | exact this) GW474.out)) | (dsimp only; exact Nat.ne_of_lt (Nat.lt_of_lt_of_le (by have := World.block_lt_of_cell? _ _ hw477_0; first | rwa [add_block] at this | exact this) GW474.out))) _).trans (hHeld.2.2.2.2.1)))))))))), ((cell_far (p := ⟨gb474, _, none⟩) (by first | exact Nat.ne_of_lt (Nat.lt_of_lt_of_le (by have := World.block_lt_of_cell? _ _ hw477_1; first | rwa [add_block] at this | exact this) GW474.out) | (rw [add_block]; exact Nat.ne_of_lt (Nat.lt_of_lt_of_le (by have := World.block_lt_of_cell? _ _ hw477_1; first | rwa [add_block] at this | exact this) GW474.out)) | (show (Addr.add _ _).block ≠ _; rw [add_block]; exact Nat.ne_of_lt (Nat.lt_of_lt_of_le (by have := World.block_lt_of_cell? _ _ hw477_1; first | rwa [add_block] at this | exact this) GW474.out)) | (dsimp only; exact Nat.ne_of_lt (Nat.lt_of_lt_of_le (by have := World.block_lt_of_cell? _ _ hw477_1; first | rwa [add_block] at this | exact this) GW474.out))) _).trans (((cell_far (p := ⟨gb474, _, none⟩) (by first | exact Nat.ne_of_lt (Nat.lt_of_lt_of_le (by have := World.block_lt_of_cell? _ _ hw477_1; first | rwa [add_block] at this | exact this) GW474.out) | (rw [add_block]; exact Nat.ne_of_lt (Nat.lt_of_lt_of_le (by have := World.block_lt_of_cell? _ _ hw477_1; first | rwa [add_block] at this | exact this) GW474.out)) | (show (Addr.add _ _).block ≠ _; rw [add_block]; exact Nat.ne_of_lt (Nat.lt_of_lt_of_le (by have := World.block_lt_of_cell? _ _ hw477_1; first | rwa [add_block] at this | exact this) GW474.out)) | (dsimp only; exact Nat.ne_of_lt (Nat.lt_of_lt_of_le (by have := World.block_lt_of_cell? _ _ hw477_1; first | rwa [add_block] at this | exact this) GW474.out))) _).trans (((cell_far (p := ⟨gb474, _, none⟩) (by first | exact Nat.ne_of_lt (Nat.lt_of_lt_of_le (by have := World.block_lt_of_cell? _ _ hw477_1; first | rwa [add_block] at this | exact this) GW474.out) | (rw [add_block]; exact Nat.ne_of_lt (Nat.lt_of_lt_of_le (by have := World.block_lt_of_cell? _ _ hw477_1; first | rwa [add_block] at this | exact this) GW474.out)) | (show (Addr.add _ _).block ≠ _; rw [add_block]; exact Nat.ne_of_lt (Nat.lt_of_lt_of_le (by have := World.block_lt_of_cell? _ _ hw477_1; first | rwa [add_block] at this | exact this) GW474.out)) | (dsimp only; exact Nat.ne_of_lt (Nat.lt_of_lt_of_le (by have := World.block_lt_of_cell? _ _ hw477_1; first | rwa [add_block] at this | exact this) GW474.out))) _).trans (((cell_far (p := ⟨gb474, _, none⟩) (by first | exact Nat.ne_of_lt (Nat.lt_of_lt_of_le (by have := World.block_lt_of_cell? _ _ hw477_1; first | rwa [add_block] at this | exact this) GW474.out) | (rw [add_block]; exact Nat.ne_of_lt (Nat.lt_of_lt_of_le (by have := World.block_lt_of_cell? _ _ hw477_1; first | rwa [add_block] at this | exact this) GW474.out)) | (show (Addr.add _ _).block ≠ _; rw [add_block]; exact Nat.ne_of_lt (Nat.lt_of_lt_of_le (by have := World.block_lt_of_cell? _ _ hw477_1; first | rwa [add_block] at this | exact this) GW474.out)) | (dsimp only; exact Nat.ne_of_lt (Nat.lt_of_lt_of_le (by have := World.block_lt_of_cell? _ _ hw477_1; first | rwa [add_block] at this | exact this) GW474.out))) _).trans (((cell_far (p := ⟨gb474, _, none⟩) (by first | exact Nat.ne_of_lt (Nat.lt_of_lt_of_le (by have := World.block_lt_of_cell? _ _ hw477_1; first | rwa [add_block] at this | exact this) GW474.out) | (rw [add_block]; exact Nat.ne_of_lt (Nat.lt_of_lt_of_le (by have := World.block_lt_of_cell? _ _ hw477_1; first | rwa [add_block] at this | exact this) GW474.out)) | (show (Addr.add _ _).block ≠ _; rw [add_block]; exact Nat.ne_of_lt (Nat.lt_of_lt_of_le (by have := World.block_lt_of_cell? _ _ hw477_1; first | rwa [add_block] at this | exact this) GW474.out)) | (dsimp only; exact Nat.ne_of_lt (Nat.lt_of_lt_of_le (by have := World.block_lt_of_cell? _ _ hw477_1; first | rwa [add_block] at this | exact this) GW474.out))) _).trans (hHeld.2.2.2.2.2))))))))))⟩ (fun hHeld => ?_)
        clear hK K
        refine done_ (done_of HT_.out (by kernel_rfl)) ?_
        try go_wp2
        refine bodyPost_ret (results_cell_row rfl _ _ gb474 34 #[.slice Ao21 t479.length co21, .int .i64 t482, .int .i64 0, .string (⟨#[]⟩ : ByteArray), .int .i64 0] (0, 0) _ rfl (by (with_reducible repeat (first | refine blk_drewN ?_ _ | refine blk_drew ?_ | refine blk_alloc ?_ _)); refine blk_put (cs := #[.slice Ao21 t479.length co21, .int .i64 t482, .int .i64 0, .string (⟨#[]⟩ : ByteArray), .int .i64 0]) ?_ 4 _ rfl; (with_reducible repeat (first | refine blk_drewN ?_ _ | refine blk_drew ?_ | refine blk_alloc ?_ _)); refine blk_put (cs := #[.slice Ao21 t479.length co21, .int .i64 t482, .int .i64 0, .string (⟨#[]⟩ : ByteArray), .int .i64 0]) ?_ 3 _ rfl; (with_reducible repeat (first | refine blk_drewN ?_ _ | refine blk_drew ?_ | refine blk_alloc ?_ _)); refine blk_put (cs := #[.slice Ao21 t479.length co21, .int .i64 t482, .int .i64 0, .string (⟨#[]⟩ : ByteArray), .int .i64 0]) ?_ 2 _ rfl; (with_reducible repeat (first | refine blk_drewN ?_ _ | refine blk_drew ?_ | refine blk_alloc ?_ _)); refine blk_put (cs := #[.slice Ao21 t479.length co21, .int .i64 0, .int .i64 0, .string (⟨#[]⟩ : ByteArray), .int .i64 0]) ?_ 1 _ rfl; (with_reducible repeat (first | refine blk_drewN ?_ _ | refine blk_drew ?_ | refine blk_alloc ?_ _)); refine blk_put (cs := #[.slice none 0 0, .int .i64 0, .int .i64 0, .string (⟨#[]⟩ : ByteArray), .int .i64 0]) ?_ 0 _ rfl; (with_reducible repeat (first | refine blk_drewN ?_ _ | refine blk_drew ?_ | refine blk_alloc ?_ _)); exact BK474.out) Try.underlying34 rfl (by kernel_rfl)) rfl ?_
        exact ⟨_, er_, by (with_reducible repeat (first | apply Kd.R_alloc | apply Kd.R_drewN | apply Kd.R_drew)); exact Kd.R_mono (Kd.R_far (p := ⟨gb474, 4, none⟩) (Kd.R_far (p := ⟨gb474, 3, none⟩) (Kd.R_far (p := ⟨gb474, 2, none⟩) (Kd.R_far (p := ⟨gb474, 1, none⟩) (Kd.R_far (p := ⟨gb474, 0, none⟩) (Kd.R_types HO481.out BK474.out (by decide)) (fun _ hk => hk.2) (.slice Ao21 t479.length co21)) (fun _ hk => hk.2) (.int .i64 t482)) (fun _ hk => hk.2) (.int .i64 0)) (fun _ hk => hk.2) (.string (⟨#[]⟩ : ByteArray))) (fun _ hk => hk.2) (.int .i64 0)) (fun _ hk => trivial), pb_ HB⟩
      · rw [if_neg c7] at H
        exact absurd H (by simp)
    · rw [if_neg c6] at H
      exact absurd H (by simp)
  · rw [if_neg c5] at H
    have c5b0 : (t476 == 0) = false := beq_eq_false_iff_ne.mpr c5
    have c5b1 : (t476 != 0) = true := bne_iff_ne.mpr c5
    simp only [Option.some.injEq, Prod.mk.injEq] at H
    obtain ⟨rfl, rfl, rfl, rfl, rfl⟩ := H
    go_enter Try.func29, Try.ntmps29
    go_wp2_with (first | ((with_reducible refine gate_dst (N := 3) rfl ?_); refine box_event ?hg (N := 3) ?hd (cs := #[.slice A0_0 l0_0.length c0_0, .int .i64 a0_1]) (t := 24) ?hr ?_; (case hd => rfl); (case hg => rfl); (case hr => first | (go_simp; done) | (go_simp; rfl)); intro gb472 hg w27 hbox hb; have BK472 := Aside0.mk (hbox); have GW472 := gw_ hg HB; have GE472 := gw_ hg HB; replace HB := sb_ HB hb; clear hb hbox hg) | ((with_reducible refine gate_dst (N := 4) rfl ?_); refine box_event ?hg (N := 4) ?hd (cs := #[.int .i64 a1_0, .int .i64 a1_1]) (t := 46) ?hr ?_; (case hd => rfl); (case hg => rfl); (case hr => first | (go_simp; done) | (go_simp; rfl)); intro gb473 hg w28 hbox hb; have BK473 := Aside0.mk (hbox); have GW473 := gw_ hg HB; have GE473 := gw_ hg HB; replace HB := sb_ HB hb; have NB472_473 := nl_ hg BK472; have NB473_472 := ng_ hg BK472; replace BK472 := kb_ BK472 hb; clear hb hbox hg) | ((with_reducible refine gate_dst (N := 6) rfl ?_); refine box_event ?hg (N := 6) ?hd (cs := #[.slice none 0 0, .int .i64 0, .int .i64 0, .string (⟨#[]⟩ : ByteArray), .int .i64 0]) (t := 34) ?hr ?_; (case hd => rfl); (case hg => rfl); (case hr => first | (go_simp; done) | (go_simp; rfl)); intro gb474 hg w29 hbox hb; have BK474 := Aside0.mk (hbox); have GW474 := gw_ hg HB; have GE474 := gw_ hg HB; replace HB := sb_ HB hb; have NB472_474 := nl_ hg BK472; have NB474_472 := ng_ hg BK472; replace BK472 := kb_ BK472 hb; have NB473_474 := nl_ hg BK473; have NB474_473 := ng_ hg BK473; replace BK473 := kb_ BK473 hb; clear hb hbox hg; have hnb30 := NB472_473.out; have hnc30 := NB473_472.out; have hnb31 := NB472_474.out; have hnc31 := NB474_472.out; have hcz32_0 := cz_ BK472 0 (.slice A0_0 l0_0.length c0_0); have hcz32_1 := cz_ BK472 1 (.int .i64 a0_1); have hfz32_0 := blk_frozen BK472.out 0; have hfz32_1 := blk_frozen BK472.out 1; have hnb33 := NB473_474.out; have hnc33 := NB474_473.out; have hcz34_0 := cz_ BK473 0 (.int .i64 a1_0); have hcz34_1 := cz_ BK473 1 (.int .i64 a1_1); have hfz34_0 := blk_frozen BK473.out 0; have hfz34_1 := blk_frozen BK473.out 1) | ((with_reducible refine gate_callee (f := 50) rfl ?_); refine goesL_ (some 14) rfl rfl Try.func50 (by kernel_rfl) rfl #[.agg #[.slice A0_0 l0_0.length c0_0, .int .i64 a0_1], .agg #[.int .i64 a1_0, .int .i64 a1_1], .int .i64 (a2.size : Int)] rfl (by (try simp only [List.map_toArray, List.map_cons, List.map_nil]); first | done | rfl | (simp only [List.length_drop, List.length_take]; rfl)) ?_; (with_reducible refine (midrangeref04_reach.calls k _ _ l0_0 a0_1 a1_0 a1_1 (a2.size : Int) t475 t476 _ ?side1 ?side2 A4.out).mono ?_); (case side1 => exact pc_ (Kd.C_below HR0_0.out HB.out)); (case side2 => exact HC0_0.out); rintro e w35 ⟨rfl, hb⟩; refine ⟨_, rfl, ?_⟩; replace BK472 := kb_ BK472 hb; replace BK473 := kb_ BK473 hb; replace BK474 := kb_ BK474 hb; replace HB := sb_ HB hb; (try clear hb); (try clear hb2); (try clear hk); (try clear hi); have hcz36_0 := cz_ BK474 0 (.slice none 0 0); have hcz36_1 := cz_ BK474 1 (.int .i64 0); have hcz36_2 := cz_ BK474 2 (.int .i64 0); have hcz36_3 := cz_ BK474 3 (.string (⟨#[]⟩ : ByteArray)); have hcz36_4 := cz_ BK474 4 (.int .i64 0); have hfz36_0 := blk_frozen BK474.out 0; have hfz36_1 := blk_frozen BK474.out 1; have hfz36_2 := blk_frozen BK474.out 2; have hfz36_3 := blk_frozen BK474.out 3; have hfz36_4 := blk_frozen BK474.out 4))
    refine bodyPost_ret (results_cell_row rfl _ _ gb474 34 #[.slice none 0 0, .int .i64 0, .int .i64 0, .string (⟨#[]⟩ : ByteArray), .int .i64 t476] (0, 0) _ rfl (by (with_reducible repeat (first | refine blk_drewN ?_ _ | refine blk_drew ?_ | refine blk_alloc ?_ _)); refine blk_put (cs := #[.slice none 0 0, .int .i64 0, .int .i64 0, .string (⟨#[]⟩ : ByteArray), .int .i64 0]) ?_ 4 _ rfl; (with_reducible repeat (first | refine blk_drewN ?_ _ | refine blk_drew ?_ | refine blk_alloc ?_ _)); refine blk_put (cs := #[.slice none 0 0, .int .i64 0, .int .i64 0, .string (⟨#[]⟩ : ByteArray), .int .i64 0]) ?_ 3 _ rfl; (with_reducible repeat (first | refine blk_drewN ?_ _ | refine blk_drew ?_ | refine blk_alloc ?_ _)); refine blk_put (cs := #[.slice none 0 0, .int .i64 0, .int .i64 0, .string (⟨#[]⟩ : ByteArray), .int .i64 0]) ?_ 2 _ rfl; (with_reducible repeat (first | refine blk_drewN ?_ _ | refine blk_drew ?_ | refine blk_alloc ?_ _)); refine blk_put (cs := #[.slice none 0 0, .int .i64 0, .int .i64 0, .string (⟨#[]⟩ : ByteArray), .int .i64 0]) ?_ 1 _ rfl; (with_reducible repeat (first | refine blk_drewN ?_ _ | refine blk_drew ?_ | refine blk_alloc ?_ _)); refine blk_put (cs := #[.slice none 0 0, .int .i64 0, .int .i64 0, .string (⟨#[]⟩ : ByteArray), .int .i64 0]) ?_ 0 _ rfl; (with_reducible repeat (first | refine blk_drewN ?_ _ | refine blk_drew ?_ | refine blk_alloc ?_ _)); exact BK474.out) Try.underlying34 rfl (by kernel_rfl)) rfl ?_
    exact ⟨_, er_, by first | exact Kd.R_nil _ _ _ _ _ | exact Kd.N_nil _ _ _ _ _ | exact Kd.V_nil _ _ _ _ _ | exact Kd.Q_nil _ _ _ _ _ | exact Kd.S_nil _ _ _ _ _, pb_ HB⟩

end Go.Proofs.Ytoabahlaicgmjaa.X
end
section
namespace Go.Proofs.Ytoabahlaicgmjaa.X
open Go.Proofs.Ytoabahlaicgmjaa.XW Go.Proofs.Ytoabahlaicgmjaa.XS
open Go.RowKit Go.Proofs.YtoabahlaicgmjaaW.PrintWords Go.Proofs.YtoabahlaicgmjaaW.PrintLast Go.Proofs.YtoabahlaicgmjaaW.PrintMore
attribute [local go_sem] max2_int min2_int max_two min_two max_three min_three max_four min_four   -- for this text's walks alone
set_option linter.unusedVariables false
set_option linter.unusedSimpArgs false

attribute [local go_sem high] eqA66
/-! ### midrangeref04_OpErr: function 61 -/
def midrangeref04_OpErr.f (a0_0 : Int) (a0_1 : Int) (a0_2 : Int) (a0_3 : Int) (a0_4 : ByteArray) : Option (Int) := (midrangebase_Within.f a0_0 0 4).bind fun t602 => (if t602 = true then (if a0_0 = 0 then ((midrangebase_Count.f (!(0 == a0_1) || (!(0 == a0_2) || (!a0_4.toList.isEmpty)))).bind fun t604 => (some (wrap64 (5 * t604)))) else (if a0_0 = 1 then ((midrangebase_Count.f (!(0 == a0_2) || (!a0_4.toList.isEmpty))).bind fun t605 => (some (wrap64 (5 * t605)))) else (if a0_0 = 2 then ((midrangebase_Count.f (!(0 == a0_2) || (!a0_4.toList.isEmpty))).bind fun t606 => (some (wrap64 (5 * t606)))) else (if a0_0 = 3 then ((midrangebase_Count.f (!(0 == a0_2) || (!(0 == a0_3) || (!a0_4.toList.isEmpty)))).bind fun t607 => (some (wrap64 (5 * t607)))) else (if a0_0 = 4 then ((midrangebase_Count.f (!(0 == a0_3))).bind fun t608 => (some (wrap64 (5 * t608)))) else ((midrangebase_Count.f (!(0 == a0_1) || (!(0 == a0_2) || (!(0 == a0_3) || (!a0_4.toList.isEmpty))))).bind fun t609 => (some (wrap64 (5 * t609))))))))) else (some 4))
def midrangeref04_OpErr.T9 : Bool × List (List Nat × List Nat) := (true, [([], []), ([0], [0]), ([], []), ([2], [2]), ([0, 1], []), ([4, 1, 0, 1], [1, 4]), ([0, 1, 2, 3, 4, 5], []), ([6, 3, 5, 0, 1, 2, 3, 4, 5], [3, 6])])
def midrangeref04_OpErr.B9 : List Nat := [0, 1, 0, 4, 3, 19, 63, 127]
theorem midrangeref04_OpErr.tab9 : rtab .any (opsOf Try.f61 9) = midrangeref04_OpErr.T9 := by kernel_rfl
theorem midrangeref04_OpErr.bits9 : waitsOk midrangeref04_OpErr.T9.2 midrangeref04_OpErr.B9 = true := by kernel_rfl
def midrangeref04_OpErr.T13 : Bool × List (List Nat × List Nat) := (true, [([], []), ([0], [0]), ([], []), ([2], [2]), ([], []), ([4], [4]), ([0, 1], []), ([6, 1, 0, 1], [1, 6]), ([0, 1, 2, 3, 6, 7], []), ([8, 3, 7, 0, 1, 2, 3, 6, 7], [3, 8]), ([0, 1, 2, 3, 4, 5, 6, 7, 8, 9], []), ([10, 5, 9, 0, 1, 2, 3, 4, 5, 6, 7, 8, 9], [5, 10])])
def midrangeref04_OpErr.B13 : List Nat := [0, 1, 0, 4, 0, 16, 3, 67, 207, 463, 1023, 2047]
theorem midrangeref04_OpErr.tab13 : rtab .any (opsOf Try.f61 13) = midrangeref04_OpErr.T13 := by kernel_rfl
theorem midrangeref04_OpErr.bits13 : waitsOk midrangeref04_OpErr.T13.2 midrangeref04_OpErr.B13 = true := by kernel_rfl
set_option maxHeartbeats 8000000 in
set_option maxRecDepth 100000 in
theorem midrangeref04_OpErr.calls (a0_0 : Int) (a0_1 : Int) (a0_2 : Int) (a0_3 : Int) (a0_4 : ByteArray) (r : Int) (w : World) (h : midrangeref04_OpErr.f a0_0 a0_1 a0_2 a0_3 a0_4 = some r) :
    Calls Try.prog 61 #[.agg #[.int .i64 a0_0, .int .i64 a0_1, .int .i64 a0_2, .int .i64 a0_3, .string a0_4]] w fun e w' => e = .returned (.int .i64 r) ∧ Below w.heap.size w w' := by
  have hu66 := Try.underlying66
  have HB := Aside0.mk (Below.refl w.heap.size w)
  have H : ((midrangebase_Within.f a0_0 0 4).bind fun t602 => (if t602 = true then (if a0_0 = 0 then ((midrangebase_Count.f (!(0 == a0_1) || (!(0 == a0_2) || (!a0_4.toList.isEmpty)))).bind fun t604 => (some (wrap64 (5 * t604)))) else (if a0_0 = 1 then ((midrangebase_Count.f (!(0 == a0_2) || (!a0_4.toList.isEmpty))).bind fun t605 => (some (wrap64 (5 * t605)))) else (if a0_0 = 2 then ((midrangebase_Count.f (!(0 == a0_2) || (!a0_4.toList.isEmpty))).bind fun t606 => (some (wrap64 (5 * t606)))) else (if a0_0 = 3 then ((midrangebase_Count.f (!(0 == a0_2) || (!(0 == a0_3) || (!a0_4.toList.isEmpty)))).bind fun t607 => (some (wrap64 (5 * t607)))) else (if a0_0 = 4 then ((midrangebase_Count.f (!(0 == a0_3))).bind fun t608 => (some (wrap64 (5 * t608)))) else ((midrangebase_Count.f (!(0 == a0_1) || (!(0 == a0_2) || (!(0 == a0_3) || (!a0_4.toList.isEmpty))))).bind fun t609 => (some (wrap64 (5 * t609))))))))) else (some 4))) = some r := h
  clear h
  replace H := Option.bind_eq_some_iff.mp H
  obtain ⟨t602, A20, H⟩ := H
  replace H : (if t602 = true then (if a0_0 = 0 then ((midrangebase_Count.f (!(0 == a0_1) || (!(0 == a0_2) || (!a0_4.toList.isEmpty)))).bind fun t604 => (some (wrap64 (5 * t604)))) else (if a0_0 = 1 then ((midrangebase_Count.f (!(0 == a0_2) || (!a0_4.toList.isEmpty))).bind fun t605 => (some (wrap64 (5 * t605)))) else (if a0_0 = 2 then ((midrangebase_Count.f (!(0 == a0_2) || (!a0_4.toList.isEmpty))).bind fun t606 => (some (wrap64 (5 * t606)))) else (if a0_0 = 3 then ((midrangebase_Count.f (!(0 == a0_2) || (!(0 == a0_3) || (!a0_4.toList.isEmpty)))).bind fun t607 => (some (wrap64 (5 * t607)))) else (if a0_0 = 4 then ((midrangebase_Count.f (!(0 == a0_3))).bind fun t608 => (some (wrap64 (5 * t608)))) else ((midrangebase_Count.f (!(0 == a0_1) || (!(0 == a0_2) || (!(0 == a0_3) || (!a0_4.toList.isEmpty))))).bind fun t609 => (some (wrap64 (5 * t609))))))))) else (some 4)) = some r := H
  have A2 := Aside0.mk A20
  clear A20
  by_cases c3 : t602 = true
  · subst c3
    have H1 : (if a0_0 = 0 then ((midrangebase_Count.f (!(0 == a0_1) || (!(0 == a0_2) || (!a0_4.toList.isEmpty)))).bind fun t604 => (some (wrap64 (5 * t604)))) else (if a0_0 = 1 then ((midrangebase_Count.f (!(0 == a0_2) || (!a0_4.toList.isEmpty))).bind fun t605 => (some (wrap64 (5 * t605)))) else (if a0_0 = 2 then ((midrangebase_Count.f (!(0 == a0_2) || (!a0_4.toList.isEmpty))).bind fun t606 => (some (wrap64 (5 * t606)))) else (if a0_0 = 3 then ((midrangebase_Count.f (!(0 == a0_2) || (!(0 == a0_3) || (!a0_4.toList.isEmpty)))).bind fun t607 => (some (wrap64 (5 * t607)))) else (if a0_0 = 4 then ((midrangebase_Count.f (!(0 == a0_3))).bind fun t608 => (some (wrap64 (5 * t608)))) else ((midrangebase_Count.f (!(0 == a0_1) || (!(0 == a0_2) || (!(0 == a0_3) || (!a0_4.toList.isEmpty))))).bind fun t609 => (some (wrap64 (5 * t609))))))))) = some r := by rw [if_pos rfl] at H; exact H
    clear H
    have H := H1
    clear H1
    by_cases c4 : a0_0 = 0
    · rw [if_pos c4] at H
      have c4b0 : (a0_0 == 0) = true := beq_iff_eq.mpr c4
      have c4b1 : (a0_0 != 0) = false := bne_eq_false_iff_eq.mpr c4
      clear c4
      replace H := Option.bind_eq_some_iff.mp H
      obtain ⟨t604, A50, H⟩ := H
      replace H : (some (wrap64 (5 * t604))) = some r := H
      have A5 := Aside0.mk A50
      clear A50
      obtain rfl := Option.some.inj H
      go_enter Try.func61, Try.ntmps61
      go_wp2_with (first | ((with_reducible refine gate_dst (N := 1) rfl ?_); refine box_event ?hg (N := 1) ?hd (cs := #[.int .i64 a0_0, .int .i64 a0_1, .int .i64 a0_2, .int .i64 a0_3, .string a0_4]) (t := 66) ?hr ?_; (case hd => rfl); (case hg => rfl); (case hr => first | (go_simp; done) | (go_simp; rfl)); intro gb601 hg w6 hbox hb; have BK601 := Aside0.mk (hbox); have GW601 := gw_ hg HB; have GE601 := gw_ hg HB; replace HB := sb_ HB hb; clear hb hbox hg; have hcz7_0 := cz_ BK601 0 (.int .i64 a0_0); have hcz7_1 := cz_ BK601 1 (.int .i64 a0_1); have hcz7_2 := cz_ BK601 2 (.int .i64 a0_2); have hcz7_3 := cz_ BK601 3 (.int .i64 a0_3); have hcz7_4 := cz_ BK601 4 (.string a0_4); have hfz7_0 := blk_frozen BK601.out 0; have hfz7_1 := blk_frozen BK601.out 1; have hfz7_2 := blk_frozen BK601.out 2; have hfz7_3 := blk_frozen BK601.out 3; have hfz7_4 := blk_frozen BK601.out 4) | ((with_reducible refine gate_callee (f := 30) rfl ?_); refine goesL_ (some 6) rfl rfl Try.func30 (by kernel_rfl) rfl #[.int .i64 a0_0, .int .i64 0, .int .i64 4] rfl (by (try simp only [List.map_toArray, List.map_cons, List.map_nil]); first | done | rfl | (simp only [List.length_drop, List.length_take]; rfl)) ?_; (with_reducible refine (midrangebase_Within.calls a0_0 0 4 true _ A2.out).mono ?_); rintro e w' ⟨rfl, ⟨nd, rfl⟩⟩; refine ⟨_, rfl, ?_⟩; (try (rw [drewN_self w6]; generalize hq_ : World.drewN w6 _ = w6; have n0_ : Aside0 (w6.heap[gb601]? = some (.cells #[.int .i64 a0_0, .int .i64 a0_1, .int .i64 a0_2, .int .i64 a0_3, .string a0_4] 66 (0, 0))) := ⟨by rw [← hq_]; exact (pk_ BK601)⟩; have n1_ : Aside0 (Below w.heap.size w w6) := ⟨by rw [← hq_]; exact (pb_ HB)⟩; clear BK601 HB hq_; have BK601 := n0_; have HB := n1_; clear n0_ n1_)); have hcz8_0 := cz_ BK601 0 (.int .i64 a0_0); have hcz8_1 := cz_ BK601 1 (.int .i64 a0_1); have hcz8_2 := cz_ BK601 2 (.int .i64 a0_2); have hcz8_3 := cz_ BK601 3 (.int .i64 a0_3); have hcz8_4 := cz_ BK601 4 (.string a0_4); have hfz8_0 := blk_frozen BK601.out 0; have hfz8_1 := blk_frozen BK601.out 1; have hfz8_2 := blk_frozen BK601.out 2; have hfz8_3 := blk_frozen BK601.out 3; have hfz8_4 := blk_frozen BK601.out 4) | ((with_reducible refine gate_dst (N := 3) rfl ?_); refine box_event ?hg (N := 3) ?hd (cs := #[.int .i64 0, .int .i64 0, .int .i64 0, .int .i64 0, .string (⟨#[]⟩ : ByteArray)]) (t := 66) ?hr ?_; (case hd => rfl); (case hg => rfl); (case hr => first | (go_simp; done) | (go_simp; rfl)); intro gb603 hg w9 hbox hb; have BK603 := Aside0.mk (hbox); have GW603 := gw_ hg HB; have GE603 := gw_ hg HB; replace HB := sb_ HB hb; have NB601_603 := nl_ hg BK601; have NB603_601 := ng_ hg BK601; replace BK601 := kb_ BK601 hb; clear hb hbox hg; have hnb10 := NB603_601.out; have hnc10 := NB601_603.out; have hcz11_0 := cz_ BK603 0 (.int .i64 0); have hcz11_1 := cz_ BK603 1 (.int .i64 0); have hcz11_2 := cz_ BK603 2 (.int .i64 0); have hcz11_3 := cz_ BK603 3 (.int .i64 0); have hcz11_4 := cz_ BK603 4 (.string (⟨#[]⟩ : ByteArray)); have hfz11_0 := blk_frozen BK603.out 0; have hfz11_1 := blk_frozen BK603.out 1; have hfz11_2 := blk_frozen BK603.out 2; have hfz11_3 := blk_frozen BK603.out 3; have hfz11_4 := blk_frozen BK603.out 4) | ((with_reducible refine gate_store (t := 66) (p := 3) rfl ?_); refine store_event (t := 66) (p := 3) (v := ?vo_w12) (w1 := (((((w9.setCell ⟨gb603, 0, none⟩ (.int .i64 a0_0)).setCell ⟨gb603, 1, none⟩ (.int .i64 0)).setCell ⟨gb603, 2, none⟩ (.int .i64 0)).setCell ⟨gb603, 3, none⟩ (.int .i64 0)).setCell ⟨gb603, 4, none⟩ (.string (⟨#[]⟩ : ByteArray)))) ?hg ?ho ?hn ?hr ?_; (case ho => rfl); (case hg => rfl); (case hn => rfl); (case hr => first | (go_simp; done) | (go_simp; rfl)); intro w12 hw; have n0_ : Aside0 (w12.heap[gb601]? = some (.cells #[.int .i64 a0_0, .int .i64 a0_1, .int .i64 a0_2, .int .i64 a0_3, .string a0_4] 66 (0, 0))) := ⟨(by rw [hw]; exact (by (with_reducible repeat (first | refine blk_drewN ?_ _ | refine blk_drew ?_ | refine blk_alloc ?_ _)); refine blk_far ?_ NB601_603.out _; (with_reducible repeat (first | refine blk_drewN ?_ _ | refine blk_drew ?_ | refine blk_alloc ?_ _)); refine blk_far ?_ NB601_603.out _; (with_reducible repeat (first | refine blk_drewN ?_ _ | refine blk_drew ?_ | refine blk_alloc ?_ _)); refine blk_far ?_ NB601_603.out _; (with_reducible repeat (first | refine blk_drewN ?_ _ | refine blk_drew ?_ | refine blk_alloc ?_ _)); refine blk_far ?_ NB601_603.out _; (with_reducible repeat (first | refine blk_drewN ?_ _ | refine blk_drew ?_ | refine blk_alloc ?_ _)); refine blk_far ?_ NB601_603.out _; (with_reducible repeat (first | refine blk_drewN ?_ _ | refine blk_drew ?_ | refine blk_alloc ?_ _)); exact BK601.out))⟩; have n1_ : Aside0 (w12.heap[gb603]? = some (.cells #[.int .i64 a0_0, .int .i64 0, .int .i64 0, .int .i64 0, .string (⟨#[]⟩ : ByteArray)] 66 (0, 0))) := ⟨(by rw [hw]; exact (by (with_reducible repeat (first | refine blk_drewN ?_ _ | refine blk_drew ?_ | refine blk_alloc ?_ _)); refine blk_put (cs := #[.int .i64 a0_0, .int .i64 0, .int .i64 0, .int .i64 0, .string (⟨#[]⟩ : ByteArray)]) ?_ 4 _ rfl; (with_reducible repeat (first | refine blk_drewN ?_ _ | refine blk_drew ?_ | refine blk_alloc ?_ _)); refine blk_put (cs := #[.int .i64 a0_0, .int .i64 0, .int .i64 0, .int .i64 0, .string (⟨#[]⟩ : ByteArray)]) ?_ 3 _ rfl; (with_reducible repeat (first | refine blk_drewN ?_ _ | refine blk_drew ?_ | refine blk_alloc ?_ _)); refine blk_put (cs := #[.int .i64 a0_0, .int .i64 0, .int .i64 0, .int .i64 0, .string (⟨#[]⟩ : ByteArray)]) ?_ 2 _ rfl; (with_reducible repeat (first | refine blk_drewN ?_ _ | refine blk_drew ?_ | refine blk_alloc ?_ _)); refine blk_put (cs := #[.int .i64 a0_0, .int .i64 0, .int .i64 0, .int .i64 0, .string (⟨#[]⟩ : ByteArray)]) ?_ 1 _ rfl; (with_reducible repeat (first | refine blk_drewN ?_ _ | refine blk_drew ?_ | refine blk_alloc ?_ _)); refine blk_put (cs := #[.int .i64 0, .int .i64 0, .int .i64 0, .int .i64 0, .string (⟨#[]⟩ : ByteArray)]) ?_ 0 _ rfl; (with_reducible repeat (first | refine blk_drewN ?_ _ | refine blk_drew ?_ | refine blk_alloc ?_ _)); exact BK603.out))⟩; have n2_ : Aside0 (Below w.heap.size w w12) := ⟨(by rw [hw]; exact (pb_ HB))⟩; clear hw; clear BK601; clear BK603; clear HB; have BK601 := n0_; have BK603 := n1_; have HB := n2_; clear n0_ n1_ n2_; have hcz13_0 := cz_ BK601 0 (.int .i64 a0_0); have hcz13_1 := cz_ BK601 1 (.int .i64 a0_1); have hcz13_2 := cz_ BK601 2 (.int .i64 a0_2); have hcz13_3 := cz_ BK601 3 (.int .i64 a0_3); have hcz13_4 := cz_ BK601 4 (.string a0_4); have hfz13_0 := blk_frozen BK601.out 0; have hfz13_1 := blk_frozen BK601.out 1; have hfz13_2 := blk_frozen BK601.out 2; have hfz13_3 := blk_frozen BK601.out 3; have hfz13_4 := blk_frozen BK601.out 4; have hcz14_0 := cz_ BK603 0 (.int .i64 a0_0); have hcz14_1 := cz_ BK603 1 (.int .i64 0); have hcz14_2 := cz_ BK603 2 (.int .i64 0); have hcz14_3 := cz_ BK603 3 (.int .i64 0); have hcz14_4 := cz_ BK603 4 (.string (⟨#[]⟩ : ByteArray)); have hfz14_0 := blk_frozen BK603.out 0; have hfz14_1 := blk_frozen BK603.out 1; have hfz14_2 := blk_frozen BK603.out 2; have hfz14_3 := blk_frozen BK603.out 3; have hfz14_4 := blk_frozen BK603.out 4) | ((with_reducible refine gate_callee (f := 68) rfl ?_); refine goesL_ (some 46) rfl rfl Try.func68 (by kernel_rfl) rfl #[.bool (!(0 == a0_1) || (!(0 == a0_2) || (!a0_4.toList.isEmpty)))] rfl (by (try simp only [List.map_toArray, List.map_cons, List.map_nil]); first | done | rfl | (simp only [List.length_drop, List.length_take]; rfl)) ?_; (with_reducible refine (midrangebase_Count.calls (!(0 == a0_1) || (!(0 == a0_2) || (!a0_4.toList.isEmpty))) t604 _ A5.out).mono ?_); rintro e w' ⟨rfl, ⟨nd, rfl⟩⟩; refine ⟨_, rfl, ?_⟩))
      go_ret
      exact ⟨er_, pb_ HB⟩
    · rw [if_neg c4] at H
      have c4b0 : (a0_0 == 0) = false := beq_eq_false_iff_ne.mpr c4
      have c4b1 : (a0_0 != 0) = true := bne_iff_ne.mpr c4
      by_cases c15 : a0_0 = 1
      · rw [if_pos c15] at H
        have c15b0 : (a0_0 == 1) = true := beq_iff_eq.mpr c15
        have c15b1 : (a0_0 != 1) = false := bne_eq_false_iff_eq.mpr c15
        clear c15
        replace H := Option.bind_eq_some_iff.mp H
        obtain ⟨t605, A160, H⟩ := H
        replace H : (some (wrap64 (5 * t605))) = some r := H
        have A16 := Aside0.mk A160
        clear A160
        obtain rfl := Option.some.inj H
        go_enter Try.func61, Try.ntmps61
        try go_wp2_with (first | ((with_reducible refine gate_dst (N := 1) rfl ?_); refine box_event ?hg (N := 1) ?hd (cs := #[.int .i64 a0_0, .int .i64 a0_1, .int .i64 a0_2, .int .i64 a0_3, .string a0_4]) (t := 66) ?hr ?_; (case hd => rfl); (case hg => rfl); (case hr => first | (go_simp; done) | (go_simp; rfl)); intro gb601 hg w17 hbox hb; have BK601 := Aside0.mk (hbox); have GW601 := gw_ hg HB; have GE601 := gw_ hg HB; replace HB := sb_ HB hb; clear hb hbox hg; have hcz18_0 := cz_ BK601 0 (.int .i64 a0_0); have hcz18_1 := cz_ BK601 1 (.int .i64 a0_1); have hcz18_2 := cz_ BK601 2 (.int .i64 a0_2); have hcz18_3 := cz_ BK601 3 (.int .i64 a0_3); have hcz18_4 := cz_ BK601 4 (.string a0_4); have hfz18_0 := blk_frozen BK601.out 0; have hfz18_1 := blk_frozen BK601.out 1; have hfz18_2 := blk_frozen BK601.out 2; have hfz18_3 := blk_frozen BK601.out 3; have hfz18_4 := blk_frozen BK601.out 4) | ((with_reducible refine gate_callee (f := 30) rfl ?_); refine goesL_ (some 6) rfl rfl Try.func30 (by kernel_rfl) rfl #[.int .i64 a0_0, .int .i64 0, .int .i64 4] rfl (by (try simp only [List.map_toArray, List.map_cons, List.map_nil]); first | done | rfl | (simp only [List.length_drop, List.length_take]; rfl)) ?_; (with_reducible refine (midrangebase_Within.calls a0_0 0 4 true _ A2.out).mono ?_); rintro e w' ⟨rfl, ⟨nd, rfl⟩⟩; refine ⟨_, rfl, ?_⟩; (try (rw [drewN_self w17]; generalize hq_ : World.drewN w17 _ = w17; have n0_ : Aside0 (w17.heap[gb601]? = some (.cells #[.int .i64 a0_0, .int .i64 a0_1, .int .i64 a0_2, .int .i64 a0_3, .string a0_4] 66 (0, 0))) := ⟨by rw [← hq_]; exact (pk_ BK601)⟩; have n1_ : Aside0 (Below w.heap.size w w17) := ⟨by rw [← hq_]; exact (pb_ HB)⟩; clear BK601 HB hq_; have BK601 := n0_; have HB := n1_; clear n0_ n1_)); have hcz19_0 := cz_ BK601 0 (.int .i64 a0_0); have hcz19_1 := cz_ BK601 1 (.int .i64 a0_1); have hcz19_2 := cz_ BK601 2 (.int .i64 a0_2); have hcz19_3 := cz_ BK601 3 (.int .i64 a0_3); have hcz19_4 := cz_ BK601 4 (.string a0_4); have hfz19_0 := blk_frozen BK601.out 0; have hfz19_1 := blk_frozen BK601.out 1; have hfz19_2 := blk_frozen BK601.out 2; have hfz19_3 := blk_frozen BK601.out 3; have hfz19_4 := blk_frozen BK601.out 4) | ((with_reducible refine gate_dst (N := 3) rfl ?_); refine box_event ?hg (N := 3) ?hd (cs := #[.int .i64 0, .int .i64 0, .int .i64 0, .int .i64 0, .string (⟨#[]⟩ : ByteArray)]) (t := 66) ?hr ?_; (case hd => rfl); (case hg => rfl); (case hr => first | (go_simp; done) | (go_simp; rfl)); intro gb603 hg w20 hbox hb; have BK603 := Aside0.mk (hbox); have GW603 := gw_ hg HB; have GE603 := gw_ hg HB; replace HB := sb_ HB hb; have NB601_603 := nl_ hg BK601; have NB603_601 := ng_ hg BK601; replace BK601 := kb_ BK601 hb; clear hb hbox hg; have hnb21 := NB603_601.out; have hnc21 := NB601_603.out; have hcz22_0 := cz_ BK603 0 (.int .i64 0); have hcz22_1 := cz_ BK603 1 (.int .i64 0); have hcz22_2 := cz_ BK603 2 (.int .i64 0); have hcz22_3 := cz_ BK603 3 (.int .i64 0); have hcz22_4 := cz_ BK603 4 (.string (⟨#[]⟩ : ByteArray)); have hfz22_0 := blk_frozen BK603.out 0; have hfz22_1 := blk_frozen BK603.out 1; have hfz22_2 := blk_frozen BK603.out 2; have hfz22_3 := blk_frozen BK603.out 3; have hfz22_4 := blk_frozen BK603.out 4; have hcz23_0 := cz_ BK601 0 (.int .i64 a0_0); have hcz23_1 := cz_ BK601 1 (.int .i64 a0_1); have hcz23_2 := cz_ BK601 2 (.int .i64 a0_2); have hcz23_3 := cz_ BK601 3 (.int .i64 a0_3); have hcz23_4 := cz_ BK601 4 (.string a0_4); have hfz23_0 := blk_frozen BK601.out 0; have hfz23_1 := blk_frozen BK601.out 1; have hfz23_2 := blk_frozen BK601.out 2; have hfz23_3 := blk_frozen BK601.out 3; have hfz23_4 := blk_frozen BK601.out 4))
        have n0_ : Aside0 ((((((w20.setCell ⟨gb603, 0, none⟩ (.int .i64 a0_0)).setCell ⟨gb603, 1, none⟩ (.int .i64 0)).setCell ⟨gb603, 2, none⟩ (.int .i64 0)).setCell ⟨gb603, 3, none⟩ (.int .i64 0)).setCell ⟨gb603, 4, none⟩ (.string (⟨#[]⟩ : ByteArray))).heap[gb601]? = some (.cells #[.int .i64 a0_0, .int .i64 a0_1, .int .i64 a0_2, .int .i64 a0_3, .string a0_4] 66 (0, 0))) := ⟨by (with_reducible repeat (first | refine blk_drewN ?_ _ | refine blk_drew ?_ | refine blk_alloc ?_ _)); refine blk_far ?_ NB601_603.out _; (with_reducible repeat (first | refine blk_drewN ?_ _ | refine blk_drew ?_ | refine blk_alloc ?_ _)); refine blk_far ?_ NB601_603.out _; (with_reducible repeat (first | refine blk_drewN ?_ _ | refine blk_drew ?_ | refine blk_alloc ?_ _)); refine blk_far ?_ NB601_603.out _; (with_reducible repeat (first | refine blk_drewN ?_ _ | refine blk_drew ?_ | refine blk_alloc ?_ _)); refine blk_far ?_ NB601_603.out _; (with_reducible repeat (first | refine blk_drewN ?_ _ | refine blk_drew ?_ | refine blk_alloc ?_ _)); refine blk_far ?_ NB601_603.out _; (with_reducible repeat (first | refine blk_drewN ?_ _ | refine blk_drew ?_ | refine blk_alloc ?_ _)); exact BK601.out⟩
        have n1_ : Aside0 ((((((w20.setCell ⟨gb603, 0, none⟩ (.int .i64 a0_0)).setCell ⟨gb603, 1, none⟩ (.int .i64 0)).setCell ⟨gb603, 2, none⟩ (.int .i64 0)).setCell ⟨gb603, 3, none⟩ (.int .i64 0)).setCell ⟨gb603, 4, none⟩ (.string (⟨#[]⟩ : ByteArray))).heap[gb603]? = some (.cells #[.int .i64 a0_0, .int .i64 0, .int .i64 0, .int .i64 0, .string (⟨#[]⟩ : ByteArray)] 66 (0, 0))) := ⟨by (with_reducible repeat (first | refine blk_drewN ?_ _ | refine blk_drew ?_ | refine blk_alloc ?_ _)); refine blk_put (cs := #[.int .i64 a0_0, .int .i64 0, .int .i64 0, .int .i64 0, .string (⟨#[]⟩ : ByteArray)]) ?_ 4 _ rfl; (with_reducible repeat (first | refine blk_drewN ?_ _ | refine blk_drew ?_ | refine blk_alloc ?_ _)); refine blk_put (cs := #[.int .i64 a0_0, .int .i64 0, .int .i64 0, .int .i64 0, .string (⟨#[]⟩ : ByteArray)]) ?_ 3 _ rfl; (with_reducible repeat (first | refine blk_drewN ?_ _ | refine blk_drew ?_ | refine blk_alloc ?_ _)); refine blk_put (cs := #[.int .i64 a0_0, .int .i64 0, .int .i64 0, .int .i64 0, .string (⟨#[]⟩ : ByteArray)]) ?_ 2 _ rfl; (with_reducible repeat (first | refine blk_drewN ?_ _ | refine blk_drew ?_ | refine blk_alloc ?_ _)); refine blk_put (cs := #[.int .i64 a0_0, .int .i64 0, .int .i64 0, .int .i64 0, .string (⟨#[]⟩ : ByteArray)]) ?_ 1 _ rfl; (with_reducible repeat (first | refine blk_drewN ?_ _ | refine blk_drew ?_ | refine blk_alloc ?_ _)); refine blk_put (cs := #[.int .i64 0, .int .i64 0, .int .i64 0, .int .i64 0, .string (⟨#[]⟩ : ByteArray)]) ?_ 0 _ rfl; (with_reducible repeat (first | refine blk_drewN ?_ _ | refine blk_drew ?_ | refine blk_alloc ?_ _)); exact BK603.out⟩
        have n2_ : Aside0 (Below w.heap.size w (((((w20.setCell ⟨gb603, 0, none⟩ (.int .i64 a0_0)).setCell ⟨gb603, 1, none⟩ (.int .i64 0)).setCell ⟨gb603, 2, none⟩ (.int .i64 0)).setCell ⟨gb603, 3, none⟩ (.int .i64 0)).setCell ⟨gb603, 4, none⟩ (.string (⟨#[]⟩ : ByteArray)))) := ⟨pb_ HB⟩
        (try clear BK601)
        (try clear BK603)
        (try clear HB)
        generalize (((((w20.setCell ⟨gb603, 0, none⟩ (.int .i64 a0_0)).setCell ⟨gb603, 1, none⟩ (.int .i64 0)).setCell ⟨gb603, 2, none⟩ (.int .i64 0)).setCell ⟨gb603, 3, none⟩ (.int .i64 0)).setCell ⟨gb603, 4, none⟩ (.string (⟨#[]⟩ : ByteArray))) = w24 at n0_ n1_ n2_ ⊢
        have BK601 := n0_
        have BK603 := n1_
        have HB := n2_
        clear n0_ n1_ n2_
        replace BK601 := Aside0.mk (blk_drew BK601.out)
        replace BK603 := Aside0.mk (blk_drew BK603.out)
        replace HB := Aside0.mk (below_drew1 HB.out)
        refine start_ (n := 8) (S := fun w' => w'.cell? ⟨gb601, 0, none⟩ = some (.int .i64 a0_0) ∧ w'.cell? ⟨gb601, 1, none⟩ = some (.int .i64 a0_1) ∧ w'.cell? ⟨gb601, 2, none⟩ = some (.int .i64 a0_2) ∧ w'.cell? ⟨gb601, 3, none⟩ = some (.int .i64 a0_3) ∧ w'.cell? ⟨gb601, 4, none⟩ = some (.string a0_4)) (ds := []) #[false, false, false, false, false, false, false, false] (by kernel_rfl) rfl rfl ⟨(blk_cell BK601.out 0).trans rfl, (blk_cell BK601.out 1).trans rfl, (blk_cell BK601.out 2).trans rfl, (blk_cell BK601.out 3).trans rfl, (blk_cell BK601.out 4).trans rfl⟩ (fun hHeld => ?_); refine with_tabW midrangeref04_OpErr.tab9 midrangeref04_OpErr.bits9 (fun HT_ HW_ => ?_)
        generalize w24.drew = w25 at BK601 BK603 HB hHeld ⊢
        refine pu_ 0 21 HT_ ?_
        refine pu_ 2 23 HT_ ?_
        refine take_ (i := 1) (N := some 22) (v := ?_) (a' := ?_) #[true, true, true, false, false, false, false, false] rfl rfl (take_ofW HT_.out HW_.out (by kernel_rfl)) (fun _ _ _ h => h) (Or.inl ⟨by rfl, ?_⟩) hHeld ?_ ?_
        rotate_left
        · rintro w' ⟨s0, s1, s2, s3, s4⟩
          go_simp
          with_reducible rfl
        rotate_left
        · simp only [Act.put, List.setIfInBounds_toArray, List.set_cons_zero, List.set_cons_succ, i64_w, i32_w]
          rfl
        refine pu_ 4 25 HT_ ?_
        refine take_ (i := 3) (N := some 24) (v := ?_) (a' := ?_) #[true, true, true, true, true, false, false, false] rfl rfl (take_ofW HT_.out HW_.out (by kernel_rfl)) (fun _ _ _ h => h) (Or.inl ⟨by rfl, ?_⟩) hHeld ?_ ?_
        rotate_left
        · rintro w' ⟨s0, s1, s2, s3, s4⟩
          go_simp
          with_reducible rfl
        rotate_left
        · simp only [Act.put, List.setIfInBounds_toArray, List.set_cons_zero, List.set_cons_succ, i64_w, i32_w]
          rfl
        refine one_ (i := 5) (N := none) #[true, true, true, true, true, true, false, false] rfl rfl (one_of HT_.out (by kernel_rfl)) (by decide) (fun K hK => ?_)
        have hs26 : w25.cell? ⟨gb603, 1, none⟩ = some (.int .i64 0) := (blk_cell BK603.out 1).trans rfl
        have hfs26 := blk_frozen BK603.out 1
        have hns26_0 := NB601_603.out
        have hms26_0 := NB603_601.out
        refine skip_ (w1 := ?_) (by rfl) rfl ?_ ?_
        rotate_left
        · go_simp
          rfl
        refine hK.out _ _ ⟨((cell_far (p := ⟨gb603, _, none⟩) NB601_603.out _).trans (hHeld.1)), ((cell_far (p := ⟨gb603, _, none⟩) NB601_603.out _).trans (hHeld.2.1)), ((cell_far (p := ⟨gb603, _, none⟩) NB601_603.out _).trans (hHeld.2.2.1)), ((cell_far (p := ⟨gb603, _, none⟩) NB601_603.out _).trans (hHeld.2.2.2.1)), ((cell_far (p := ⟨gb603, _, none⟩) NB601_603.out _).trans (hHeld.2.2.2.2))⟩ (fun hHeld => ?_)
        clear hK K
        refine pu_ 6 26 HT_ ?_
        refine one_ (i := 7) (N := none) #[true, true, true, true, true, true, true, true] rfl rfl (one_of HT_.out (by kernel_rfl)) (by decide) (fun K hK => ?_)
        have hs27 : w25.cell? ⟨gb603, 3, none⟩ = some (.int .i64 0) := (blk_cell BK603.out 3).trans rfl
        have hfs27 := blk_frozen BK603.out 3
        have hns27_0 := NB601_603.out
        have hms27_0 := NB603_601.out
        refine skip_ (w1 := ?_) (by rfl) rfl ?_ ?_
        rotate_left
        · go_simp
          rfl
        refine hK.out _ _ ⟨((cell_far (p := ⟨gb603, _, none⟩) NB601_603.out _).trans (hHeld.1)), ((cell_far (p := ⟨gb603, _, none⟩) NB601_603.out _).trans (hHeld.2.1)), ((cell_far (p := ⟨gb603, _, none⟩) NB601_603.out _).trans (hHeld.2.2.1)), ((cell_far (p := ⟨gb603, _, none⟩) NB601_603.out _).trans (hHeld.2.2.2.1)), ((cell_far (p := ⟨gb603, _, none⟩) NB601_603.out _).trans (hHeld.2.2.2.2))⟩ (fun hHeld => ?_)
        clear hK K
        refine done_ (done_of HT_.out (by kernel_rfl)) ?_
        have hcz28_0 := cz_ BK603 0 (.int .i64 a0_0)
        have hcz28_1 := cz_ BK603 1 (.int .i64 0)
        have hcz28_2 := cz_ BK603 2 (.int .i64 0)
        have hcz28_3 := cz_ BK603 3 (.int .i64 0)
        have hcz28_4 := cz_ BK603 4 (.string (⟨#[]⟩ : ByteArray))
        have hfz28_0 := blk_frozen BK603.out 0
        have hfz28_1 := blk_frozen BK603.out 1
        have hfz28_2 := blk_frozen BK603.out 2
        have hfz28_3 := blk_frozen BK603.out 3
        have hfz28_4 := blk_frozen BK603.out 4
        have hcz29_0 := cz_ BK601 0 (.int .i64 a0_0)
        have hcz29_1 := cz_ BK601 1 (.int .i64 a0_1)
        have hcz29_2 := cz_ BK601 2 (.int .i64 a0_2)
        have hcz29_3 := cz_ BK601 3 (.int .i64 a0_3)
        have hcz29_4 := cz_ BK601 4 (.string a0_4)
        have hfz29_0 := blk_frozen BK601.out 0
        have hfz29_1 := blk_frozen BK601.out 1
        have hfz29_2 := blk_frozen BK601.out 2
        have hfz29_3 := blk_frozen BK601.out 3
        have hfz29_4 := blk_frozen BK601.out 4
        try go_wp2_with (first | ((with_reducible refine gate_callee (f := 68) rfl ?_); refine goesL_ (some 46) rfl rfl Try.func68 (by kernel_rfl) rfl #[.bool (!(0 == a0_2) || (!a0_4.toList.isEmpty))] rfl (by (try simp only [List.map_toArray, List.map_cons, List.map_nil]); first | done | rfl | (simp only [List.length_drop, List.length_take]; rfl)) ?_; (with_reducible refine (midrangebase_Count.calls (!(0 == a0_2) || (!a0_4.toList.isEmpty)) t605 _ A16.out).mono ?_); rintro e w' ⟨rfl, ⟨nd, rfl⟩⟩; refine ⟨_, rfl, ?_⟩))
        go_ret
        exact ⟨er_, pb_ HB⟩
      · rw [if_neg c15] at H
        have c15b0 : (a0_0 == 1) = false := beq_eq_false_iff_ne.mpr c15
        have c15b1 : (a0_0 != 1) = true := bne_iff_ne.mpr c15
        by_cases c30 : a0_0 = 2
        · rw [if_pos c30] at H
          have c30b0 : (a0_0 == 2) = true := beq_iff_eq.mpr c30
          have c30b1 : (a0_0 != 2) = false := bne_eq_false_iff_eq.mpr c30
          clear c30
          replace H := Option.bind_eq_some_iff.mp H
          obtain ⟨t606, A310, H⟩ := H
          replace H : (some (wrap64 (5 * t606))) = some r := H
          have A31 := Aside0.mk A310
          clear A310
          obtain rfl := Option.some.inj H
          go_enter Try.func61, Try.ntmps61
          try go_wp2_with (first | ((with_reducible refine gate_dst (N := 1) rfl ?_); refine box_event ?hg (N := 1) ?hd (cs := #[.int .i64 a0_0, .int .i64 a0_1, .int .i64 a0_2, .int .i64 a0_3, .string a0_4]) (t := 66) ?hr ?_; (case hd => rfl); (case hg => rfl); (case hr => first | (go_simp; done) | (go_simp; rfl)); intro gb601 hg w32 hbox hb; have BK601 := Aside0.mk (hbox); have GW601 := gw_ hg HB; have GE601 := gw_ hg HB; replace HB := sb_ HB hb; clear hb hbox hg; have hcz33_0 := cz_ BK601 0 (.int .i64 a0_0); have hcz33_1 := cz_ BK601 1 (.int .i64 a0_1); have hcz33_2 := cz_ BK601 2 (.int .i64 a0_2); have hcz33_3 := cz_ BK601 3 (.int .i64 a0_3); have hcz33_4 := cz_ BK601 4 (.string a0_4); have hfz33_0 := blk_frozen BK601.out 0; have hfz33_1 := blk_frozen BK601.out 1; have hfz33_2 := blk_frozen BK601.out 2; have hfz33_3 := blk_frozen BK601.out 3; have hfz33_4 := blk_frozen BK601.out 4) | ((with_reducible refine gate_callee (f := 30) rfl ?_); refine goesL_ (some 6) rfl rfl Try.func30 (by kernel_rfl) rfl #[.int .i64 a0_0, .int .i64 0, .int .i64 4] rfl (by (try simp only [List.map_toArray, List.map_cons, List.map_nil]); first | done | rfl | (simp only [List.length_drop, List.length_take]; rfl)) ?_; (with_reducible refine (midrangebase_Within.calls a0_0 0 4 true _ A2.out).mono ?_); rintro e w' ⟨rfl, ⟨nd, rfl⟩⟩; refine ⟨_, rfl, ?_⟩; (try (rw [drewN_self w32]; generalize hq_ : World.drewN w32 _ = w32; have n0_ : Aside0 (w32.heap[gb601]? = some (.cells #[.int .i64 a0_0, .int .i64 a0_1, .int .i64 a0_2, .int .i64 a0_3, .string a0_4] 66 (0, 0))) := ⟨by rw [← hq_]; exact (pk_ BK601)⟩; have n1_ : Aside0 (Below w.heap.size w w32) := ⟨by rw [← hq_]; exact (pb_ HB)⟩; clear BK601 HB hq_; have BK601 := n0_; have HB := n1_; clear n0_ n1_)); have hcz34_0 := cz_ BK601 0 (.int .i64 a0_0); have hcz34_1 := cz_ BK601 1 (.int .i64 a0_1); have hcz34_2 := cz_ BK601 2 (.int .i64 a0_2); have hcz34_3 := cz_ BK601 3 (.int .i64 a0_3); have hcz34_4 := cz_ BK601 4 (.string a0_4); have hfz34_0 := blk_frozen BK601.out 0; have hfz34_1 := blk_frozen BK601.out 1; have hfz34_2 := blk_frozen BK601.out 2; have hfz34_3 := blk_frozen BK601.out 3; have hfz34_4 := blk_frozen BK601.out 4) | ((with_reducible refine gate_dst (N := 3) rfl ?_); refine box_event ?hg (N := 3) ?hd (cs := #[.int .i64 0, .int .i64 0, .int .i64 0, .int .i64 0, .string (⟨#[]⟩ : ByteArray)]) (t := 66) ?hr ?_; (case hd => rfl); (case hg => rfl); (case hr => first | (go_simp; done) | (go_simp; rfl)); intro gb603 hg w35 hbox hb; have BK603 := Aside0.mk (hbox); have GW603 := gw_ hg HB; have GE603 := gw_ hg HB; replace HB := sb_ HB hb; have NB601_603 := nl_ hg BK601; have NB603_601 := ng_ hg BK601; replace BK601 := kb_ BK601 hb; clear hb hbox hg; have hnb36 := NB603_601.out; have hnc36 := NB601_603.out; have hcz37_0 := cz_ BK603 0 (.int .i64 0); have hcz37_1 := cz_ BK603 1 (.int .i64 0); have hcz37_2 := cz_ BK603 2 (.int .i64 0); have hcz37_3 := cz_ BK603 3 (.int .i64 0); have hcz37_4 := cz_ BK603 4 (.string (⟨#[]⟩ : ByteArray)); have hfz37_0 := blk_frozen BK603.out 0; have hfz37_1 := blk_frozen BK603.out 1; have hfz37_2 := blk_frozen BK603.out 2; have hfz37_3 := blk_frozen BK603.out 3; have hfz37_4 := blk_frozen BK603.out 4; have hcz38_0 := cz_ BK601 0 (.int .i64 a0_0); have hcz38_1 := cz_ BK601 1 (.int .i64 a0_1); have hcz38_2 := cz_ BK601 2 (.int .i64 a0_2); have hcz38_3 := cz_ BK601 3 (.int .i64 a0_3); have hcz38_4 := cz_ BK601 4 (.string a0_4); have hfz38_0 := blk_frozen BK601.out 0; have hfz38_1 := blk_frozen BK601.out 1; have hfz38_2 := blk_frozen BK601.out 2; have hfz38_3 := blk_frozen BK601.out 3; have hfz38_4 := blk_frozen BK601.out 4))
          have n0_ : Aside0 ((((((w35.setCell ⟨gb603, 0, none⟩ (.int .i64 a0_0)).setCell ⟨gb603, 1, none⟩ (.int .i64 0)).setCell ⟨gb603, 2, none⟩ (.int .i64 0)).setCell ⟨gb603, 3, none⟩ (.int .i64 0)).setCell ⟨gb603, 4, none⟩ (.string (⟨#[]⟩ : ByteArray))).heap[gb601]? = some (.cells #[.int .i64 a0_0, .int .i64 a0_1, .int .i64 a0_2, .int .i64 a0_3, .string a0_4] 66 (0, 0))) := ⟨by (with_reducible repeat (first | refine blk_drewN ?_ _ | refine blk_drew ?_ | refine blk_alloc ?_ _)); refine blk_far ?_ NB601_603.out _; (with_reducible repeat (first | refine blk_drewN ?_ _ | refine blk_drew ?_ | refine blk_alloc ?_ _)); refine blk_far ?_ NB601_603.out _; (with_reducible repeat (first | refine blk_drewN ?_ _ | refine blk_drew ?_ | refine blk_alloc ?_ _)); refine blk_far ?_ NB601_603.out _; (with_reducible repeat (first | refine blk_drewN ?_ _ | refine blk_drew ?_ | refine blk_alloc ?_ _)); refine blk_far ?_ NB601_603.out _; (with_reducible repeat (first | refine blk_drewN ?_ _ | refine blk_drew ?_ | refine blk_alloc ?_ _)); refine blk_far ?_ NB601_603.out _; (with_reducible repeat (first | refine blk_drewN ?_ _ | refine blk_drew ?_ | refine blk_alloc ?_ _)); exact BK601.out⟩
          have n1_ : Aside0 ((((((w35.setCell ⟨gb603, 0, none⟩ (.int .i64 a0_0)).setCell ⟨gb603, 1, none⟩ (.int .i64 0)).setCell ⟨gb603, 2, none⟩ (.int .i64 0)).setCell ⟨gb603, 3, none⟩ (.int .i64 0)).setCell ⟨gb603, 4, none⟩ (.string (⟨#[]⟩ : ByteArray))).heap[gb603]? = some (.cells #[.int .i64 a0_0, .int .i64 0, .int .i64 0, .int .i64 0, .string (⟨#[]⟩ : ByteArray)] 66 (0, 0))) := ⟨by (with_reducible repeat (first | refine blk_drewN ?_ _ | refine blk_drew ?_ | refine blk_alloc ?_ _)); refine blk_put (cs := #[.int .i64 a0_0, .int .i64 0, .int .i64 0, .int .i64 0, .string (⟨#[]⟩ : ByteArray)]) ?_ 4 _ rfl; (with_reducible repeat (first | refine blk_drewN ?_ _ | refine blk_drew ?_ | refine blk_alloc ?_ _)); refine blk_put (cs := #[.int .i64 a0_0, .int .i64 0, .int .i64 0, .int .i64 0, .string (⟨#[]⟩ : ByteArray)]) ?_ 3 _ rfl; (with_reducible repeat (first | refine blk_drewN ?_ _ | refine blk_drew ?_ | refine blk_alloc ?_ _)); refine blk_put (cs := #[.int .i64 a0_0, .int .i64 0, .int .i64 0, .int .i64 0, .string (⟨#[]⟩ : ByteArray)]) ?_ 2 _ rfl; (with_reducible repeat (first | refine blk_drewN ?_ _ | refine blk_drew ?_ | refine blk_alloc ?_ _)); refine blk_put (cs := #[.int .i64 a0_0, .int .i64 0, .int .i64 0, .int .i64 0, .string (⟨#[]⟩ : ByteArray)]) ?_ 1 _ rfl; (with_reducible repeat (first | refine blk_drewN ?_ _ | refine blk_drew ?_ | refine blk_alloc ?_ _)); refine blk_put (cs := #[.int .i64 0, .int .i64 0, .int .i64 0, .int .i64 0, .string (⟨#[]⟩ : ByteArray)]) ?_ 0 _ rfl; (with_reducible repeat (first | refine blk_drewN ?_ _ | refine blk_drew ?_ | refine blk_alloc ?_ _)); exact BK603.out⟩
          have n2_ : Aside0 (Below w.heap.size w (((((w35.setCell ⟨gb603, 0, none⟩ (.int .i64 a0_0)).setCell ⟨gb603, 1, none⟩ (.int .i64 0)).setCell ⟨gb603, 2, none⟩ (.int .i64 0)).setCell ⟨gb603, 3, none⟩ (.int .i64 0)).setCell ⟨gb603, 4, none⟩ (.string (⟨#[]⟩ : ByteArray)))) := ⟨pb_ HB⟩
          (try clear BK601)
          (try clear BK603)
          (try clear HB)
          generalize (((((w35.setCell ⟨gb603, 0, none⟩ (.int .i64 a0_0)).setCell ⟨gb603, 1, none⟩ (.int .i64 0)).setCell ⟨gb603, 2, none⟩ (.int .i64 0)).setCell ⟨gb603, 3, none⟩ (.int .i64 0)).setCell ⟨gb603, 4, none⟩ (.string (⟨#[]⟩ : ByteArray))) = w39 at n0_ n1_ n2_ ⊢
          have BK601 := n0_
          have BK603 := n1_
          have HB := n2_
          clear n0_ n1_ n2_
          replace BK601 := Aside0.mk (blk_drew BK601.out)
          replace BK603 := Aside0.mk (blk_drew BK603.out)
          replace HB := Aside0.mk (below_drew1 HB.out)
          refine start_ (n := 8) (S := fun w' => w'.cell? ⟨gb601, 0, none⟩ = some (.int .i64 a0_0) ∧ w'.cell? ⟨gb601, 1, none⟩ = some (.int .i64 a0_1) ∧ w'.cell? ⟨gb601, 2, none⟩ = some (.int .i64 a0_2) ∧ w'.cell? ⟨gb601, 3, none⟩ = some (.int .i64 a0_3) ∧ w'.cell? ⟨gb601, 4, none⟩ = some (.string a0_4)) (ds := []) #[false, false, false, false, false, false, false, false] (by kernel_rfl) rfl rfl ⟨(blk_cell BK601.out 0).trans rfl, (blk_cell BK601.out 1).trans rfl, (blk_cell BK601.out 2).trans rfl, (blk_cell BK601.out 3).trans rfl, (blk_cell BK601.out 4).trans rfl⟩ (fun hHeld => ?_); refine with_tabW midrangeref04_OpErr.tab9 midrangeref04_OpErr.bits9 (fun HT_ HW_ => ?_)
          generalize w39.drew = w40 at BK601 BK603 HB hHeld ⊢
          refine pu_ 0 21 HT_ ?_
          refine pu_ 2 23 HT_ ?_
          refine take_ (i := 1) (N := some 22) (v := ?_) (a' := ?_) #[true, true, true, false, false, false, false, false] rfl rfl (take_ofW HT_.out HW_.out (by kernel_rfl)) (fun _ _ _ h => h) (Or.inl ⟨by rfl, ?_⟩) hHeld ?_ ?_
          rotate_left
          · rintro w' ⟨s0, s1, s2, s3, s4⟩
            go_simp
            with_reducible rfl
          rotate_left
          · simp only [Act.put, List.setIfInBounds_toArray, List.set_cons_zero, List.set_cons_succ, i64_w, i32_w]
            rfl
          refine pu_ 4 25 HT_ ?_
          refine take_ (i := 3) (N := some 24) (v := ?_) (a' := ?_) #[true, true, true, true, true, false, false, false] rfl rfl (take_ofW HT_.out HW_.out (by kernel_rfl)) (fun _ _ _ h => h) (Or.inl ⟨by rfl, ?_⟩) hHeld ?_ ?_
          rotate_left
          · rintro w' ⟨s0, s1, s2, s3, s4⟩
            go_simp
            with_reducible rfl
          rotate_left
          · simp only [Act.put, List.setIfInBounds_toArray, List.set_cons_zero, List.set_cons_succ, i64_w, i32_w]
            rfl
          refine one_ (i := 5) (N := none) #[true, true, true, true, true, true, false, false] rfl rfl (one_of HT_.out (by kernel_rfl)) (by decide) (fun K hK => ?_)
          have hs41 : w40.cell? ⟨gb603, 1, none⟩ = some (.int .i64 0) := (blk_cell BK603.out 1).trans rfl
          have hfs41 := blk_frozen BK603.out 1
          have hns41_0 := NB601_603.out
          have hms41_0 := NB603_601.out
          refine skip_ (w1 := ?_) (by rfl) rfl ?_ ?_
          rotate_left
          · go_simp
            rfl
          refine hK.out _ _ ⟨((cell_far (p := ⟨gb603, _, none⟩) NB601_603.out _).trans (hHeld.1)), ((cell_far (p := ⟨gb603, _, none⟩) NB601_603.out _).trans (hHeld.2.1)), ((cell_far (p := ⟨gb603, _, none⟩) NB601_603.out _).trans (hHeld.2.2.1)), ((cell_far (p := ⟨gb603, _, none⟩) NB601_603.out _).trans (hHeld.2.2.2.1)), ((cell_far (p := ⟨gb603, _, none⟩) NB601_603.out _).trans (hHeld.2.2.2.2))⟩ (fun hHeld => ?_)
          clear hK K
          refine pu_ 6 26 HT_ ?_
          refine one_ (i := 7) (N := none) #[true, true, true, true, true, true, true, true] rfl rfl (one_of HT_.out (by kernel_rfl)) (by decide) (fun K hK => ?_)
          have hs42 : w40.cell? ⟨gb603, 3, none⟩ = some (.int .i64 0) := (blk_cell BK603.out 3).trans rfl
          have hfs42 := blk_frozen BK603.out 3
          have hns42_0 := NB601_603.out
          have hms42_0 := NB603_601.out
          refine skip_ (w1 := ?_) (by rfl) rfl ?_ ?_
          rotate_left
          · go_simp
            rfl
          refine hK.out _ _ ⟨((cell_far (p := ⟨gb603, _, none⟩) NB601_603.out _).trans (hHeld.1)), ((cell_far (p := ⟨gb603, _, none⟩) NB601_603.out _).trans (hHeld.2.1)), ((cell_far (p := ⟨gb603, _, none⟩) NB601_603.out _).trans (hHeld.2.2.1)), ((cell_far (p := ⟨gb603, _, none⟩) NB601_603.out _).trans (hHeld.2.2.2.1)), ((cell_far (p := ⟨gb603, _, none⟩) NB601_603.out _).trans (hHeld.2.2.2.2))⟩ (fun hHeld => ?_)
          clear hK K
          refine done_ (done_of HT_.out (by kernel_rfl)) ?_
          have hcz43_0 := cz_ BK603 0 (.int .i64 a0_0)
          have hcz43_1 := cz_ BK603 1 (.int .i64 0)
          have hcz43_2 := cz_ BK603 2 (.int .i64 0)
          have hcz43_3 := cz_ BK603 3 (.int .i64 0)
          have hcz43_4 := cz_ BK603 4 (.string (⟨#[]⟩ : ByteArray))
          have hfz43_0 := blk_frozen BK603.out 0
          have hfz43_1 := blk_frozen BK603.out 1
          have hfz43_2 := blk_frozen BK603.out 2
          have hfz43_3 := blk_frozen BK603.out 3
          have hfz43_4 := blk_frozen BK603.out 4
          have hcz44_0 := cz_ BK601 0 (.int .i64 a0_0)
          have hcz44_1 := cz_ BK601 1 (.int .i64 a0_1)
          have hcz44_2 := cz_ BK601 2 (.int .i64 a0_2)
          have hcz44_3 := cz_ BK601 3 (.int .i64 a0_3)
          have hcz44_4 := cz_ BK601 4 (.string a0_4)
          have hfz44_0 := blk_frozen BK601.out 0
          have hfz44_1 := blk_frozen BK601.out 1
          have hfz44_2 := blk_frozen BK601.out 2
          have hfz44_3 := blk_frozen BK601.out 3
          have hfz44_4 := blk_frozen BK601.out 4
          try go_wp2_with (first | ((with_reducible refine gate_callee (f := 68) rfl ?_); refine goesL_ (some 46) rfl rfl Try.func68 (by kernel_rfl) rfl #[.bool (!(0 == a0_2) || (!a0_4.toList.isEmpty))] rfl (by (try simp only [List.map_toArray, List.map_cons, List.map_nil]); first | done | rfl | (simp only [List.length_drop, List.length_take]; rfl)) ?_; (with_reducible refine (midrangebase_Count.calls (!(0 == a0_2) || (!a0_4.toList.isEmpty)) t606 _ A31.out).mono ?_); rintro e w' ⟨rfl, ⟨nd, rfl⟩⟩; refine ⟨_, rfl, ?_⟩))
          go_ret
          exact ⟨er_, pb_ HB⟩
        · rw [if_neg c30] at H
          have c30b0 : (a0_0 == 2) = false := beq_eq_false_iff_ne.mpr c30
          have c30b1 : (a0_0 != 2) = true := bne_iff_ne.mpr c30
          by_cases c45 : a0_0 = 3
          · rw [if_pos c45] at H
            have c45b0 : (a0_0 == 3) = true := beq_iff_eq.mpr c45
            have c45b1 : (a0_0 != 3) = false := bne_eq_false_iff_eq.mpr c45
            clear c45
            replace H := Option.bind_eq_some_iff.mp H
            obtain ⟨t607, A460, H⟩ := H
            replace H : (some (wrap64 (5 * t607))) = some r := H
            have A46 := Aside0.mk A460
            clear A460
            obtain rfl := Option.some.inj H
            go_enter Try.func61, Try.ntmps61
            go_wp2_with (first | ((with_reducible refine gate_dst (N := 1) rfl ?_); refine box_event ?hg (N := 1) ?hd (cs := #[.int .i64 a0_0, .int .i64 a0_1, .int .i64 a0_2, .int .i64 a0_3, .string a0_4]) (t := 66) ?hr ?_; (case hd => rfl); (case hg => rfl); (case hr => first | (go_simp; done) | (go_simp; rfl)); intro gb601 hg w47 hbox hb; have BK601 := Aside0.mk (hbox); have GW601 := gw_ hg HB; have GE601 := gw_ hg HB; replace HB := sb_ HB hb; clear hb hbox hg; have hcz48_0 := cz_ BK601 0 (.int .i64 a0_0); have hcz48_1 := cz_ BK601 1 (.int .i64 a0_1); have hcz48_2 := cz_ BK601 2 (.int .i64 a0_2); have hcz48_3 := cz_ BK601 3 (.int .i64 a0_3); have hcz48_4 := cz_ BK601 4 (.string a0_4); have hfz48_0 := blk_frozen BK601.out 0; have hfz48_1 := blk_frozen BK601.out 1; have hfz48_2 := blk_frozen BK601.out 2; have hfz48_3 := blk_frozen BK601.out 3; have hfz48_4 := blk_frozen BK601.out 4) | ((with_reducible refine gate_callee (f := 30) rfl ?_); refine goesL_ (some 6) rfl rfl Try.func30 (by kernel_rfl) rfl #[.int .i64 a0_0, .int .i64 0, .int .i64 4] rfl (by (try simp only [List.map_toArray, List.map_cons, List.map_nil]); first | done | rfl | (simp only [List.length_drop, List.length_take]; rfl)) ?_; (with_reducible refine (midrangebase_Within.calls a0_0 0 4 true _ A2.out).mono ?_); rintro e w' ⟨rfl, ⟨nd, rfl⟩⟩; refine ⟨_, rfl, ?_⟩; (try (rw [drewN_self w47]; generalize hq_ : World.drewN w47 _ = w47; have n0_ : Aside0 (w47.heap[gb601]? = some (.cells #[.int .i64 a0_0, .int .i64 a0_1, .int .i64 a0_2, .int .i64 a0_3, .string a0_4] 66 (0, 0))) := ⟨by rw [← hq_]; exact (pk_ BK601)⟩; have n1_ : Aside0 (Below w.heap.size w w47) := ⟨by rw [← hq_]; exact (pb_ HB)⟩; clear BK601 HB hq_; have BK601 := n0_; have HB := n1_; clear n0_ n1_)); have hcz49_0 := cz_ BK601 0 (.int .i64 a0_0); have hcz49_1 := cz_ BK601 1 (.int .i64 a0_1); have hcz49_2 := cz_ BK601 2 (.int .i64 a0_2); have hcz49_3 := cz_ BK601 3 (.int .i64 a0_3); have hcz49_4 := cz_ BK601 4 (.string a0_4); have hfz49_0 := blk_frozen BK601.out 0; have hfz49_1 := blk_frozen BK601.out 1; have hfz49_2 := blk_frozen BK601.out 2; have hfz49_3 := blk_frozen BK601.out 3; have hfz49_4 := blk_frozen BK601.out 4) | ((with_reducible refine gate_dst (N := 3) rfl ?_); refine box_event ?hg (N := 3) ?hd (cs := #[.int .i64 0, .int .i64 0, .int .i64 0, .int .i64 0, .string (⟨#[]⟩ : ByteArray)]) (t := 66) ?hr ?_; (case hd => rfl); (case hg => rfl); (case hr => first | (go_simp; done) | (go_simp; rfl)); intro gb603 hg w50 hbox hb; have BK603 := Aside0.mk (hbox); have GW603 := gw_ hg HB; have GE603 := gw_ hg HB; replace HB := sb_ HB hb; have NB601_603 := nl_ hg BK601; have NB603_601 := ng_ hg BK601; replace BK601 := kb_ BK601 hb; clear hb hbox hg; have hnb51 := NB603_601.out; have hnc51 := NB601_603.out; have hcz52_0 := cz_ BK603 0 (.int .i64 0); have hcz52_1 := cz_ BK603 1 (.int .i64 0); have hcz52_2 := cz_ BK603 2 (.int .i64 0); have hcz52_3 := cz_ BK603 3 (.int .i64 0); have hcz52_4 := cz_ BK603 4 (.string (⟨#[]⟩ : ByteArray)); have hfz52_0 := blk_frozen BK603.out 0; have hfz52_1 := blk_frozen BK603.out 1; have hfz52_2 := blk_frozen BK603.out 2; have hfz52_3 := blk_frozen BK603.out 3; have hfz52_4 := blk_frozen BK603.out 4) | ((with_reducible refine gate_store (t := 66) (p := 3) rfl ?_); refine store_event (t := 66) (p := 3) (v := ?vo_w53) (w1 := (((((w50.setCell ⟨gb603, 0, none⟩ (.int .i64 a0_0)).setCell ⟨gb603, 1, none⟩ (.int .i64 0)).setCell ⟨gb603, 2, none⟩ (.int .i64 0)).setCell ⟨gb603, 3, none⟩ (.int .i64 0)).setCell ⟨gb603, 4, none⟩ (.string (⟨#[]⟩ : ByteArray)))) ?hg ?ho ?hn ?hr ?_; (case ho => rfl); (case hg => rfl); (case hn => rfl); (case hr => first | (go_simp; done) | (go_simp; rfl)); intro w53 hw; have n0_ : Aside0 (w53.heap[gb601]? = some (.cells #[.int .i64 a0_0, .int .i64 a0_1, .int .i64 a0_2, .int .i64 a0_3, .string a0_4] 66 (0, 0))) := ⟨(by rw [hw]; exact (by (with_reducible repeat (first | refine blk_drewN ?_ _ | refine blk_drew ?_ | refine blk_alloc ?_ _)); refine blk_far ?_ NB601_603.out _; (with_reducible repeat (first | refine blk_drewN ?_ _ | refine blk_drew ?_ | refine blk_alloc ?_ _)); refine blk_far ?_ NB601_603.out _; (with_reducible repeat (first | refine blk_drewN ?_ _ | refine blk_drew ?_ | refine blk_alloc ?_ _)); refine blk_far ?_ NB601_603.out _; (with_reducible repeat (first | refine blk_drewN ?_ _ | refine blk_drew ?_ | refine blk_alloc ?_ _)); refine blk_far ?_ NB601_603.out _; (with_reducible repeat (first | refine blk_drewN ?_ _ | refine blk_drew ?_ | refine blk_alloc ?_ _)); refine blk_far ?_ NB601_603.out _; (with_reducible repeat (first | refine blk_drewN ?_ _ | refine blk_drew ?_ | refine blk_alloc ?_ _)); exact BK601.out))⟩; have n1_ : Aside0 (w53.heap[gb603]? = some (.cells #[.int .i64 a0_0, .int .i64 0, .int .i64 0, .int .i64 0, .string (⟨#[]⟩ : ByteArray)] 66 (0, 0))) := ⟨(by rw [hw]; exact (by (with_reducible repeat (first | refine blk_drewN ?_ _ | refine blk_drew ?_ | refine blk_alloc ?_ _)); refine blk_put (cs := #[.int .i64 a0_0, .int .i64 0, .int .i64 0, .int .i64 0, .string (⟨#[]⟩ : ByteArray)]) ?_ 4 _ rfl; (with_reducible repeat (first | refine blk_drewN ?_ _ | refine blk_drew ?_ | refine blk_alloc ?_ _)); refine blk_put (cs := #[.int .i64 a0_0, .int .i64 0, .int .i64 0, .int .i64 0, .string (⟨#[]⟩ : ByteArray)]) ?_ 3 _ rfl; (with_reducible repeat (first | refine blk_drewN ?_ _ | refine blk_drew ?_ | refine blk_alloc ?_ _)); refine blk_put (cs := #[.int .i64 a0_0, .int .i64 0, .int .i64 0, .int .i64 0, .string (⟨#[]⟩ : ByteArray)]) ?_ 2 _ rfl; (with_reducible repeat (first | refine blk_drewN ?_ _ | refine blk_drew ?_ | refine blk_alloc ?_ _)); refine blk_put (cs := #[.int .i64 a0_0, .int .i64 0, .int .i64 0, .int .i64 0, .string (⟨#[]⟩ : ByteArray)]) ?_ 1 _ rfl; (with_reducible repeat (first | refine blk_drewN ?_ _ | refine blk_drew ?_ | refine blk_alloc ?_ _)); refine blk_put (cs := #[.int .i64 0, .int .i64 0, .int .i64 0, .int .i64 0, .string (⟨#[]⟩ : ByteArray)]) ?_ 0 _ rfl; (with_reducible repeat (first | refine blk_drewN ?_ _ | refine blk_drew ?_ | refine blk_alloc ?_ _)); exact BK603.out))⟩; have n2_ : Aside0 (Below w.heap.size w w53) := ⟨(by rw [hw]; exact (pb_ HB))⟩; clear hw; clear BK601; clear BK603; clear HB; have BK601 := n0_; have BK603 := n1_; have HB := n2_; clear n0_ n1_ n2_; have hcz54_0 := cz_ BK601 0 (.int .i64 a0_0); have hcz54_1 := cz_ BK601 1 (.int .i64 a0_1); have hcz54_2 := cz_ BK601 2 (.int .i64 a0_2); have hcz54_3 := cz_ BK601 3 (.int .i64 a0_3); have hcz54_4 := cz_ BK601 4 (.string a0_4); have hfz54_0 := blk_frozen BK601.out 0; have hfz54_1 := blk_frozen BK601.out 1; have hfz54_2 := blk_frozen BK601.out 2; have hfz54_3 := blk_frozen BK601.out 3; have hfz54_4 := blk_frozen BK601.out 4; have hcz55_0 := cz_ BK603 0 (.int .i64 a0_0); have hcz55_1 := cz_ BK603 1 (.int .i64 0); have hcz55_2 := cz_ BK603 2 (.int .i64 0); have hcz55_3 := cz_ BK603 3 (.int .i64 0); have hcz55_4 := cz_ BK603 4 (.string (⟨#[]⟩ : ByteArray)); have hfz55_0 := blk_frozen BK603.out 0; have hfz55_1 := blk_frozen BK603.out 1; have hfz55_2 := blk_frozen BK603.out 2; have hfz55_3 := blk_frozen BK603.out 3; have hfz55_4 := blk_frozen BK603.out 4) | ((with_reducible refine gate_callee (f := 68) rfl ?_); refine goesL_ (some 46) rfl rfl Try.func68 (by kernel_rfl) rfl #[.bool (!(0 == a0_2) || (!(0 == a0_3) || (!a0_4.toList.isEmpty)))] rfl (by (try simp only [List.map_toArray, List.map_cons, List.map_nil]); first | done | rfl | (simp only [List.length_drop, List.length_take]; rfl)) ?_; (with_reducible refine (midrangebase_Count.calls (!(0 == a0_2) || (!(0 == a0_3) || (!a0_4.toList.isEmpty))) t607 _ A46.out).mono ?_); rintro e w' ⟨rfl, ⟨nd, rfl⟩⟩; refine ⟨_, rfl, ?_⟩))
            go_ret
            exact ⟨er_, pb_ HB⟩
          · rw [if_neg c45] at H
            have c45b0 : (a0_0 == 3) = false := beq_eq_false_iff_ne.mpr c45
            have c45b1 : (a0_0 != 3) = true := bne_iff_ne.mpr c45
            by_cases c56 : a0_0 = 4
            · rw [if_pos c56] at H
              have c56b0 : (a0_0 == 4) = true := beq_iff_eq.mpr c56
              have c56b1 : (a0_0 != 4) = false := bne_eq_false_iff_eq.mpr c56
              clear c56
              replace H := Option.bind_eq_some_iff.mp H
              obtain ⟨t608, A570, H⟩ := H
              replace H : (some (wrap64 (5 * t608))) = some r := H
              have A57 := Aside0.mk A570
              clear A570
              obtain rfl := Option.some.inj H
              go_enter Try.func61, Try.ntmps61
              try go_wp2_with (first | ((with_reducible refine gate_dst (N := 1) rfl ?_); refine box_event ?hg (N := 1) ?hd (cs := #[.int .i64 a0_0, .int .i64 a0_1, .int .i64 a0_2, .int .i64 a0_3, .string a0_4]) (t := 66) ?hr ?_; (case hd => rfl); (case hg => rfl); (case hr => first | (go_simp; done) | (go_simp; rfl)); intro gb601 hg w58 hbox hb; have BK601 := Aside0.mk (hbox); have GW601 := gw_ hg HB; have GE601 := gw_ hg HB; replace HB := sb_ HB hb; clear hb hbox hg; have hcz59_0 := cz_ BK601 0 (.int .i64 a0_0); have hcz59_1 := cz_ BK601 1 (.int .i64 a0_1); have hcz59_2 := cz_ BK601 2 (.int .i64 a0_2); have hcz59_3 := cz_ BK601 3 (.int .i64 a0_3); have hcz59_4 := cz_ BK601 4 (.string a0_4); have hfz59_0 := blk_frozen BK601.out 0; have hfz59_1 := blk_frozen BK601.out 1; have hfz59_2 := blk_frozen BK601.out 2; have hfz59_3 := blk_frozen BK601.out 3; have hfz59_4 := blk_frozen BK601.out 4) | ((with_reducible refine gate_callee (f := 30) rfl ?_); refine goesL_ (some 6) rfl rfl Try.func30 (by kernel_rfl) rfl #[.int .i64 a0_0, .int .i64 0, .int .i64 4] rfl (by (try simp only [List.map_toArray, List.map_cons, List.map_nil]); first | done | rfl | (simp only [List.length_drop, List.length_take]; rfl)) ?_; (with_reducible refine (midrangebase_Within.calls a0_0 0 4 true _ A2.out).mono ?_); rintro e w' ⟨rfl, ⟨nd, rfl⟩⟩; refine ⟨_, rfl, ?_⟩; (try (rw [drewN_self w58]; generalize hq_ : World.drewN w58 _ = w58; have n0_ : Aside0 (w58.heap[gb601]? = some (.cells #[.int .i64 a0_0, .int .i64 a0_1, .int .i64 a0_2, .int .i64 a0_3, .string a0_4] 66 (0, 0))) := ⟨by rw [← hq_]; exact (pk_ BK601)⟩; have n1_ : Aside0 (Below w.heap.size w w58) := ⟨by rw [← hq_]; exact (pb_ HB)⟩; clear BK601 HB hq_; have BK601 := n0_; have HB := n1_; clear n0_ n1_)); have hcz60_0 := cz_ BK601 0 (.int .i64 a0_0); have hcz60_1 := cz_ BK601 1 (.int .i64 a0_1); have hcz60_2 := cz_ BK601 2 (.int .i64 a0_2); have hcz60_3 := cz_ BK601 3 (.int .i64 a0_3); have hcz60_4 := cz_ BK601 4 (.string a0_4); have hfz60_0 := blk_frozen BK601.out 0; have hfz60_1 := blk_frozen BK601.out 1; have hfz60_2 := blk_frozen BK601.out 2; have hfz60_3 := blk_frozen BK601.out 3; have hfz60_4 := blk_frozen BK601.out 4) | ((with_reducible refine gate_dst (N := 3) rfl ?_); refine box_event ?hg (N := 3) ?hd (cs := #[.int .i64 0, .int .i64 0, .int .i64 0, .int .i64 0, .string (⟨#[]⟩ : ByteArray)]) (t := 66) ?hr ?_; (case hd => rfl); (case hg => rfl); (case hr => first | (go_simp; done) | (go_simp; rfl)); intro gb603 hg w61 hbox hb; have BK603 := Aside0.mk (hbox); have GW603 := gw_ hg HB; have GE603 := gw_ hg HB; replace HB := sb_ HB hb; have NB601_603 := nl_ hg BK601; have NB603_601 := ng_ hg BK601; replace BK601 := kb_ BK601 hb; clear hb hbox hg; have hnb62 := NB603_601.out; have hnc62 := NB601_603.out; have hcz63_0 := cz_ BK603 0 (.int .i64 0); have hcz63_1 := cz_ BK603 1 (.int .i64 0); have hcz63_2 := cz_ BK603 2 (.int .i64 0); have hcz63_3 := cz_ BK603 3 (.int .i64 0); have hcz63_4 := cz_ BK603 4 (.string (⟨#[]⟩ : ByteArray)); have hfz63_0 := blk_frozen BK603.out 0; have hfz63_1 := blk_frozen BK603.out 1; have hfz63_2 := blk_frozen BK603.out 2; have hfz63_3 := blk_frozen BK603.out 3; have hfz63_4 := blk_frozen BK603.out 4; have hcz64_0 := cz_ BK601 0 (.int .i64 a0_0); have hcz64_1 := cz_ BK601 1 (.int .i64 a0_1); have hcz64_2 := cz_ BK601 2 (.int .i64 a0_2); have hcz64_3 := cz_ BK601 3 (.int .i64 a0_3); have hcz64_4 := cz_ BK601 4 (.string a0_4); have hfz64_0 := blk_frozen BK601.out 0; have hfz64_1 := blk_frozen BK601.out 1; have hfz64_2 := blk_frozen BK601.out 2; have hfz64_3 := blk_frozen BK601.out 3; have hfz64_4 := blk_frozen BK601.out 4))
              have n0_ : Aside0 ((((((w61.setCell ⟨gb603, 0, none⟩ (.int .i64 a0_0)).setCell ⟨gb603, 1, none⟩ (.int .i64 0)).setCell ⟨gb603, 2, none⟩ (.int .i64 0)).setCell ⟨gb603, 3, none⟩ (.int .i64 0)).setCell ⟨gb603, 4, none⟩ (.string (⟨#[]⟩ : ByteArray))).heap[gb601]? = some (.cells #[.int .i64 a0_0, .int .i64 a0_1, .int .i64 a0_2, .int .i64 a0_3, .string a0_4] 66 (0, 0))) := ⟨by (with_reducible repeat (first | refine blk_drewN ?_ _ | refine blk_drew ?_ | refine blk_alloc ?_ _)); refine blk_far ?_ NB601_603.out _; (with_reducible repeat (first | refine blk_drewN ?_ _ | refine blk_drew ?_ | refine blk_alloc ?_ _)); refine blk_far ?_ NB601_603.out _; (with_reducible repeat (first | refine blk_drewN ?_ _ | refine blk_drew ?_ | refine blk_alloc ?_ _)); refine blk_far ?_ NB601_603.out _; (with_reducible repeat (first | refine blk_drewN ?_ _ | refine blk_drew ?_ | refine blk_alloc ?_ _)); refine blk_far ?_ NB601_603.out _; (with_reducible repeat (first | refine blk_drewN ?_ _ | refine blk_drew ?_ | refine blk_alloc ?_ _)); refine blk_far ?_ NB601_603.out _; (with_reducible repeat (first | refine blk_drewN ?_ _ | refine blk_drew ?_ | refine blk_alloc ?_ _)); exact BK601.out⟩
              have n1_ : Aside0 ((((((w61.setCell ⟨gb603, 0, none⟩ (.int .i64 a0_0)).setCell ⟨gb603, 1, none⟩ (.int .i64 0)).setCell ⟨gb603, 2, none⟩ (.int .i64 0)).setCell ⟨gb603, 3, none⟩ (.int .i64 0)).setCell ⟨gb603, 4, none⟩ (.string (⟨#[]⟩ : ByteArray))).heap[gb603]? = some (.cells #[.int .i64 a0_0, .int .i64 0, .int .i64 0, .int .i64 0, .string (⟨#[]⟩ : ByteArray)] 66 (0, 0))) := ⟨by (with_reducible repeat (first | refine blk_drewN ?_ _ | refine blk_drew ?_ | refine blk_alloc ?_ _)); refine blk_put (cs := #[.int .i64 a0_0, .int .i64 0, .int .i64 0, .int .i64 0, .string (⟨#[]⟩ : ByteArray)]) ?_ 4 _ rfl; (with_reducible repeat (first | refine blk_drewN ?_ _ | refine blk_drew ?_ | refine blk_alloc ?_ _)); refine blk_put (cs := #[.int .i64 a0_0, .int .i64 0, .int .i64 0, .int .i64 0, .string (⟨#[]⟩ : ByteArray)]) ?_ 3 _ rfl; (with_reducible repeat (first | refine blk_drewN ?_ _ | refine blk_drew ?_ | refine blk_alloc ?_ _)); refine blk_put (cs := #[.int .i64 a0_0, .int .i64 0, .int .i64 0, .int .i64 0, .string (⟨#[]⟩ : ByteArray)]) ?_ 2 _ rfl; (with_reducible repeat (first | refine blk_drewN ?_ _ | refine blk_drew ?_ | refine blk_alloc ?_ _)); refine blk_put (cs := #[.int .i64 a0_0, .int .i64 0, .int .i64 0, .int .i64 0, .string (⟨#[]⟩ : ByteArray)]) ?_ 1 _ rfl; (with_reducible repeat (first | refine blk_drewN ?_ _ | refine blk_drew ?_ | refine blk_alloc ?_ _)); refine blk_put (cs := #[.int .i64 0, .int .i64 0, .int .i64 0, .int .i64 0, .string (⟨#[]⟩ : ByteArray)]) ?_ 0 _ rfl; (with_reducible repeat (first | refine blk_drewN ?_ _ | refine blk_drew ?_ | refine blk_alloc ?_ _)); exact BK603.out⟩
              have n2_ : Aside0 (Below w.heap.size w (((((w61.setCell ⟨gb603, 0, none⟩ (.int .i64 a0_0)).setCell ⟨gb603, 1, none⟩ (.int .i64 0)).setCell ⟨gb603, 2, none⟩ (.int .i64 0)).setCell ⟨gb603, 3, none⟩ (.int .i64 0)).setCell ⟨gb603, 4, none⟩ (.string (⟨#[]⟩ : ByteArray)))) := ⟨pb_ HB⟩
              (try clear BK601)
              (try clear BK603)
              (try clear HB)
              generalize (((((w61.setCell ⟨gb603, 0, none⟩ (.int .i64 a0_0)).setCell ⟨gb603, 1, none⟩ (.int .i64 0)).setCell ⟨gb603, 2, none⟩ (.int .i64 0)).setCell ⟨gb603, 3, none⟩ (.int .i64 0)).setCell ⟨gb603, 4, none⟩ (.string (⟨#[]⟩ : ByteArray))) = w65 at n0_ n1_ n2_ ⊢
              have BK601 := n0_
              have BK603 := n1_
              have HB := n2_
              clear n0_ n1_ n2_
              replace BK601 := Aside0.mk (blk_drew BK601.out)
              replace BK603 := Aside0.mk (blk_drew BK603.out)
              replace HB := Aside0.mk (below_drew1 HB.out)
              refine start_ (n := 12) (S := fun w' => w'.cell? ⟨gb601, 0, none⟩ = some (.int .i64 a0_0) ∧ w'.cell? ⟨gb601, 1, none⟩ = some (.int .i64 a0_1) ∧ w'.cell? ⟨gb601, 2, none⟩ = some (.int .i64 a0_2) ∧ w'.cell? ⟨gb601, 3, none⟩ = some (.int .i64 a0_3) ∧ w'.cell? ⟨gb601, 4, none⟩ = some (.string a0_4)) (ds := []) #[false, false, false, false, false, false, false, false, false, false, false, false] (by kernel_rfl) rfl rfl ⟨(blk_cell BK601.out 0).trans rfl, (blk_cell BK601.out 1).trans rfl, (blk_cell BK601.out 2).trans rfl, (blk_cell BK601.out 3).trans rfl, (blk_cell BK601.out 4).trans rfl⟩ (fun hHeld => ?_); refine with_tabW midrangeref04_OpErr.tab13 midrangeref04_OpErr.bits13 (fun HT_ HW_ => ?_)
              generalize w65.drew = w66 at BK601 BK603 HB hHeld ⊢
              refine pu_ 0 34 HT_ ?_
              refine pu_ 2 36 HT_ ?_
              refine pu_ 4 38 HT_ ?_
              refine take_ (i := 1) (N := some 35) (v := ?_) (a' := ?_) #[true, true, true, false, true, false, false, false, false, false, false, false] rfl rfl (take_ofW HT_.out HW_.out (by kernel_rfl)) (fun _ _ _ h => h) (Or.inl ⟨by rfl, ?_⟩) hHeld ?_ ?_
              rotate_left
              · rintro w' ⟨s0, s1, s2, s3, s4⟩
                go_simp
                with_reducible rfl
              rotate_left
              · simp only [Act.put, List.setIfInBounds_toArray, List.set_cons_zero, List.set_cons_succ, i64_w, i32_w]
                rfl
              refine pu_ 6 40 HT_ ?_
              refine take_ (i := 3) (N := some 37) (v := ?_) (a' := ?_) #[true, true, true, true, true, false, true, false, false, false, false, false] rfl rfl (take_ofW HT_.out HW_.out (by kernel_rfl)) (fun _ _ _ h => h) (Or.inl ⟨by rfl, ?_⟩) hHeld ?_ ?_
              rotate_left
              · rintro w' ⟨s0, s1, s2, s3, s4⟩
                go_simp
                with_reducible rfl
              rotate_left
              · simp only [Act.put, List.setIfInBounds_toArray, List.set_cons_zero, List.set_cons_succ, i64_w, i32_w]
                rfl
              refine take_ (i := 5) (N := some 39) (v := ?_) (a' := ?_) #[true, true, true, true, true, true, true, false, false, false, false, false] rfl rfl (take_ofW HT_.out HW_.out (by kernel_rfl)) (fun _ _ _ h => h) (Or.inl ⟨by rfl, ?_⟩) hHeld ?_ ?_
              rotate_left
              · rintro w' ⟨s0, s1, s2, s3, s4⟩
                go_simp
                with_reducible rfl
              rotate_left
              · simp only [Act.put, List.setIfInBounds_toArray, List.set_cons_zero, List.set_cons_succ, i64_w, i32_w]
                rfl
              refine one_ (i := 7) (N := none) #[true, true, true, true, true, true, true, true, false, false, false, false] rfl rfl (one_of HT_.out (by kernel_rfl)) (by decide) (fun K hK => ?_)
              have hs67 : w66.cell? ⟨gb603, 1, none⟩ = some (.int .i64 0) := (blk_cell BK603.out 1).trans rfl
              have hfs67 := blk_frozen BK603.out 1
              have hns67_0 := NB601_603.out
              have hms67_0 := NB603_601.out
              refine skip_ (w1 := ?_) (by rfl) rfl ?_ ?_
              rotate_left
              · go_simp
                rfl
              refine hK.out _ _ ⟨((cell_far (p := ⟨gb603, _, none⟩) NB601_603.out _).trans (hHeld.1)), ((cell_far (p := ⟨gb603, _, none⟩) NB601_603.out _).trans (hHeld.2.1)), ((cell_far (p := ⟨gb603, _, none⟩) NB601_603.out _).trans (hHeld.2.2.1)), ((cell_far (p := ⟨gb603, _, none⟩) NB601_603.out _).trans (hHeld.2.2.2.1)), ((cell_far (p := ⟨gb603, _, none⟩) NB601_603.out _).trans (hHeld.2.2.2.2))⟩ (fun hHeld => ?_)
              clear hK K
              refine pu_ 8 41 HT_ ?_
              refine one_ (i := 9) (N := none) #[true, true, true, true, true, true, true, true, true, true, false, false] rfl rfl (one_of HT_.out (by kernel_rfl)) (by decide) (fun K hK => ?_)
              have hs68 : w66.cell? ⟨gb603, 2, none⟩ = some (.int .i64 0) := (blk_cell BK603.out 2).trans rfl
              have hfs68 := blk_frozen BK603.out 2
              have hns68_0 := NB601_603.out
              have hms68_0 := NB603_601.out
              refine skip_ (w1 := ?_) (by rfl) rfl ?_ ?_
              rotate_left
              · go_simp
                rfl
              refine hK.out _ _ ⟨((cell_far (p := ⟨gb603, _, none⟩) NB601_603.out _).trans (hHeld.1)), ((cell_far (p := ⟨gb603, _, none⟩) NB601_603.out _).trans (hHeld.2.1)), ((cell_far (p := ⟨gb603, _, none⟩) NB601_603.out _).trans (hHeld.2.2.1)), ((cell_far (p := ⟨gb603, _, none⟩) NB601_603.out _).trans (hHeld.2.2.2.1)), ((cell_far (p := ⟨gb603, _, none⟩) NB601_603.out _).trans (hHeld.2.2.2.2))⟩ (fun hHeld => ?_)
              clear hK K
              refine pu_ 10 42 HT_ ?_
              refine one_ (i := 11) (N := none) #[true, true, true, true, true, true, true, true, true, true, true, true] rfl rfl (one_of HT_.out (by kernel_rfl)) (by decide) (fun K hK => ?_)
              have hs69 : w66.cell? ⟨gb603, 4, none⟩ = some (.string (⟨#[]⟩ : ByteArray)) := (blk_cell BK603.out 4).trans rfl
              have hfs69 := blk_frozen BK603.out 4
              have hns69_0 := NB601_603.out
              have hms69_0 := NB603_601.out
              refine skip_ (w1 := ?_) (by rfl) rfl ?_ ?_
              rotate_left
              · go_simp
                rfl
              refine hK.out _ _ ⟨((cell_far (p := ⟨gb603, _, none⟩) NB601_603.out _).trans (hHeld.1)), ((cell_far (p := ⟨gb603, _, none⟩) NB601_603.out _).trans (hHeld.2.1)), ((cell_far (p := ⟨gb603, _, none⟩) NB601_603.out _).trans (hHeld.2.2.1)), ((cell_far (p := ⟨gb603, _, none⟩) NB601_603.out _).trans (hHeld.2.2.2.1)), ((cell_far (p := ⟨gb603, _, none⟩) NB601_603.out _).trans (hHeld.2.2.2.2))⟩ (fun hHeld => ?_)
              clear hK K
              refine done_ (done_of HT_.out (by kernel_rfl)) ?_
              have hcz70_0 := cz_ BK603 0 (.int .i64 a0_0)
              have hcz70_1 := cz_ BK603 1 (.int .i64 0)
              have hcz70_2 := cz_ BK603 2 (.int .i64 0)
              have hcz70_3 := cz_ BK603 3 (.int .i64 0)
              have hcz70_4 := cz_ BK603 4 (.string (⟨#[]⟩ : ByteArray))
              have hfz70_0 := blk_frozen BK603.out 0
              have hfz70_1 := blk_frozen BK603.out 1
              have hfz70_2 := blk_frozen BK603.out 2
              have hfz70_3 := blk_frozen BK603.out 3
              have hfz70_4 := blk_frozen BK603.out 4
              have hcz71_0 := cz_ BK601 0 (.int .i64 a0_0)
              have hcz71_1 := cz_ BK601 1 (.int .i64 a0_1)
              have hcz71_2 := cz_ BK601 2 (.int .i64 a0_2)
              have hcz71_3 := cz_ BK601 3 (.int .i64 a0_3)
              have hcz71_4 := cz_ BK601 4 (.string a0_4)
              have hfz71_0 := blk_frozen BK601.out 0
              have hfz71_1 := blk_frozen BK601.out 1
              have hfz71_2 := blk_frozen BK601.out 2
              have hfz71_3 := blk_frozen BK601.out 3
              have hfz71_4 := blk_frozen BK601.out 4
              try go_wp2_with (first | ((with_reducible refine gate_callee (f := 68) rfl ?_); refine goesL_ (some 46) rfl rfl Try.func68 (by kernel_rfl) rfl #[.bool (!(0 == a0_3))] rfl (by (try simp only [List.map_toArray, List.map_cons, List.map_nil]); first | done | rfl | (simp only [List.length_drop, List.length_take]; rfl)) ?_; (with_reducible refine (midrangebase_Count.calls (!(0 == a0_3)) t608 _ A57.out).mono ?_); rintro e w' ⟨rfl, ⟨nd, rfl⟩⟩; refine ⟨_, rfl, ?_⟩))
              go_ret
              exact ⟨er_, pb_ HB⟩
            · rw [if_neg c56] at H
              have c56b0 : (a0_0 == 4) = false := beq_eq_false_iff_ne.mpr c56
              have c56b1 : (a0_0 != 4) = true := bne_iff_ne.mpr c56
              replace H := Option.bind_eq_some_iff.mp H
              obtain ⟨t609, A720, H⟩ := H
              replace H : (some (wrap64 (5 * t609))) = some r := H
              have A72 := Aside0.mk A720
              clear A720
              obtain rfl := Option.some.inj H
              go_enter Try.func61, Try.ntmps61
              go_wp2_with (first | ((with_reducible refine gate_dst (N := 1) rfl ?_); refine box_event ?hg (N := 1) ?hd (cs := #[.int .i64 a0_0, .int .i64 a0_1, .int .i64 a0_2, .int .i64 a0_3, .string a0_4]) (t := 66) ?hr ?_; (case hd => rfl); (case hg => rfl); (case hr => first | (go_simp; done) | (go_simp; rfl)); intro gb601 hg w73 hbox hb; have BK601 := Aside0.mk (hbox); have GW601 := gw_ hg HB; have GE601 := gw_ hg HB; replace HB := sb_ HB hb; clear hb hbox hg; have hcz74_0 := cz_ BK601 0 (.int .i64 a0_0); have hcz74_1 := cz_ BK601 1 (.int .i64 a0_1); have hcz74_2 := cz_ BK601 2 (.int .i64 a0_2); have hcz74_3 := cz_ BK601 3 (.int .i64 a0_3); have hcz74_4 := cz_ BK601 4 (.string a0_4); have hfz74_0 := blk_frozen BK601.out 0; have hfz74_1 := blk_frozen BK601.out 1; have hfz74_2 := blk_frozen BK601.out 2; have hfz74_3 := blk_frozen BK601.out 3; have hfz74_4 := blk_frozen BK601.out 4) | ((with_reducible refine gate_callee (f := 30) rfl ?_); refine goesL_ (some 6) rfl rfl Try.func30 (by kernel_rfl) rfl #[.int .i64 a0_0, .int .i64 0, .int .i64 4] rfl (by (try simp only [List.map_toArray, List.map_cons, List.map_nil]); first | done | rfl | (simp only [List.length_drop, List.length_take]; rfl)) ?_; (with_reducible refine (midrangebase_Within.calls a0_0 0 4 true _ A2.out).mono ?_); rintro e w' ⟨rfl, ⟨nd, rfl⟩⟩; refine ⟨_, rfl, ?_⟩; (try (rw [drewN_self w73]; generalize hq_ : World.drewN w73 _ = w73; have n0_ : Aside0 (w73.heap[gb601]? = some (.cells #[.int .i64 a0_0, .int .i64 a0_1, .int .i64 a0_2, .int .i64 a0_3, .string a0_4] 66 (0, 0))) := ⟨by rw [← hq_]; exact (pk_ BK601)⟩; have n1_ : Aside0 (Below w.heap.size w w73) := ⟨by rw [← hq_]; exact (pb_ HB)⟩; clear BK601 HB hq_; have BK601 := n0_; have HB := n1_; clear n0_ n1_)); have hcz75_0 := cz_ BK601 0 (.int .i64 a0_0); have hcz75_1 := cz_ BK601 1 (.int .i64 a0_1); have hcz75_2 := cz_ BK601 2 (.int .i64 a0_2); have hcz75_3 := cz_ BK601 3 (.int .i64 a0_3); have hcz75_4 := cz_ BK601 4 (.string a0_4); have hfz75_0 := blk_frozen BK601.out 0; have hfz75_1 := blk_frozen BK601.out 1; have hfz75_2 := blk_frozen BK601.out 2; have hfz75_3 := blk_frozen BK601.out 3; have hfz75_4 := blk_frozen BK601.out 4) | ((with_reducible refine gate_dst (N := 3) rfl ?_); refine box_event ?hg (N := 3) ?hd (cs := #[.int .i64 0, .int .i64 0, .int .i64 0, .int .i64 0, .string (⟨#[]⟩ : ByteArray)]) (t := 66) ?hr ?_; (case hd => rfl); (case hg => rfl); (case hr => first | (go_simp; done) | (go_simp; rfl)); intro gb603 hg w76 hbox hb; have BK603 := Aside0.mk (hbox); have GW603 := gw_ hg HB; have GE603 := gw_ hg HB; replace HB := sb_ HB hb; have NB601_603 := nl_ hg BK601; have NB603_601 := ng_ hg BK601; replace BK601 := kb_ BK601 hb; clear hb hbox hg; have hnb77 := NB603_601.out; have hnc77 := NB601_603.out; have hcz78_0 := cz_ BK603 0 (.int .i64 0); have hcz78_1 := cz_ BK603 1 (.int .i64 0); have hcz78_2 := cz_ BK603 2 (.int .i64 0); have hcz78_3 := cz_ BK603 3 (.int .i64 0); have hcz78_4 := cz_ BK603 4 (.string (⟨#[]⟩ : ByteArray)); have hfz78_0 := blk_frozen BK603.out 0; have hfz78_1 := blk_frozen BK603.out 1; have hfz78_2 := blk_frozen BK603.out 2; have hfz78_3 := blk_frozen BK603.out 3; have hfz78_4 := blk_frozen BK603.out 4; have hcz79_0 := cz_ BK601 0 (.int .i64 a0_0); have hcz79_1 := cz_ BK601 1 (.int .i64 a0_1); have hcz79_2 := cz_ BK601 2 (.int .i64 a0_2); have hcz79_3 := cz_ BK601 3 (.int .i64 a0_3); have hcz79_4 := cz_ BK601 4 (.string a0_4); have hfz79_0 := blk_frozen BK601.out 0; have hfz79_1 := blk_frozen BK601.out 1; have hfz79_2 := blk_frozen BK601.out 2; have hfz79_3 := blk_frozen BK601.out 3; have hfz79_4 := blk_frozen BK601.out 4) | ((with_reducible refine gate_callee (f := 68) rfl ?_); refine goesL_ (some 46) rfl rfl Try.func68 (by kernel_rfl) rfl #[.bool (!(0 == a0_1) || (!(0 == a0_2) || (!(0 == a0_3) || (!a0_4.toList.isEmpty))))] rfl (by (try simp only [List.map_toArray, List.map_cons, List.map_nil]); first | done | rfl | (simp only [List.length_drop, List.length_take]; rfl)) ?_; (with_reducible refine (midrangebase_Count.calls (!(0 == a0_1) || (!(0 == a0_2) || (!(0 == a0_3) || (!a0_4.toList.isEmpty)))) t609 _ A72.out).mono ?_); rintro e w' ⟨rfl, ⟨nd, rfl⟩⟩; refine ⟨_, rfl, ?_⟩))
              go_ret
              exact ⟨er_, pb_ HB⟩
  · replace c3 := Bool.eq_false_iff.mpr c3
    subst c3
    have H1 : (some 4) = some r := by rw [if_neg (show ¬ (false = true) by decide)] at H; exact H
    clear H
    have H := H1
    clear H1
    obtain rfl := Option.some.inj H
    go_enter Try.func61, Try.ntmps61
    go_wp2_with (first | ((with_reducible refine gate_dst (N := 1) rfl ?_); refine box_event ?hg (N := 1) ?hd (cs := #[.int .i64 a0_0, .int .i64 a0_1, .int .i64 a0_2, .int .i64 a0_3, .string a0_4]) (t := 66) ?hr ?_; (case hd => rfl); (case hg => rfl); (case hr => first | (go_simp; done) | (go_simp; rfl)); intro gb601 hg w80 hbox hb; have BK601 := Aside0.mk (hbox); have GW601 := gw_ hg HB; have GE601 := gw_ hg HB; replace HB := sb_ HB hb; clear hb hbox hg; have hcz81_0 := cz_ BK601 0 (.int .i64 a0_0); have hcz81_1 := cz_ BK601 1 (.int .i64 a0_1); have hcz81_2 := cz_ BK601 2 (.int .i64 a0_2); have hcz81_3 := cz_ BK601 3 (.int .i64 a0_3); have hcz81_4 := cz_ BK601 4 (.string a0_4); have hfz81_0 := blk_frozen BK601.out 0; have hfz81_1 := blk_frozen BK601.out 1; have hfz81_2 := blk_frozen BK601.out 2; have hfz81_3 := blk_frozen BK601.out 3; have hfz81_4 := blk_frozen BK601.out 4) | ((with_reducible refine gate_callee (f := 30) rfl ?_); refine goesL_ (some 6) rfl rfl Try.func30 (by kernel_rfl) rfl #[.int .i64 a0_0, .int .i64 0, .int .i64 4] rfl (by (try simp only [List.map_toArray, List.map_cons, List.map_nil]); first | done | rfl | (simp only [List.length_drop, List.length_take]; rfl)) ?_; (with_reducible refine (midrangebase_Within.calls a0_0 0 4 false _ A2.out).mono ?_); rintro e w' ⟨rfl, ⟨nd, rfl⟩⟩; refine ⟨_, rfl, ?_⟩))
    go_ret
    exact ⟨er_, pb_ HB⟩

end Go.Proofs.Ytoabahlaicgmjaa.X
end
