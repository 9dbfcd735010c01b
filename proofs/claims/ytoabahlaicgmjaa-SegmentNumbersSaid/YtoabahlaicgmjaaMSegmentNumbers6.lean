-- Texts of this claim joined by merge.py, a program of its author; what this claim does not reach is left out.
import Derived.Test.YtoabahlaicgmjaaMSegmentNumbers5
section
namespace Go.Proofs.Ytoabahlaicgmjaa.X
open Go.Proofs.Ytoabahlaicgmjaa.XW Go.Proofs.Ytoabahlaicgmjaa.XS
open Go.RowKit Go.Proofs.YtoabahlaicgmjaaW.PrintWords Go.Proofs.YtoabahlaicgmjaaW.PrintLast Go.Proofs.YtoabahlaicgmjaaW.PrintMore
attribute [local go_sem] max2_int min2_int max_two min_two max_three min_three max_four min_four   -- for this text's walks alone
set_option linter.unusedVariables false
set_option linter.unusedSimpArgs false
def segment_apply.f (k : Nat) (l0_0 : List (S56)) (a0_1 : Int) (a1_0 : Int) (a1_1 : Int) (a1_2 : Int) (a1_3 : Int) (a1_4 : ByteArray) : Option ((List (S56)) × Int × Int) := (segment_form.f a1_0 a1_1 a1_2 a1_3 a1_4).bind fun t554 => (if t554 = 0 then (if a1_0 = 0 then ((segment_Created.f k l0_0 a0_1 a1_3).bind fun bt555 => (some (bt555.1, bt555.2.1, bt555.2.2.2))) else (if a1_0 = 1 then ((segment_Extended.f k l0_0 a0_1 a1_1 a1_3).bind fun bt562 => (some (bt562.1, bt562.2.1, bt562.2.2))) else (if a1_0 = 2 then ((segment_Truncated.f k l0_0 a0_1 a1_1 a1_3).bind fun bt567 => (some (bt567.1, bt567.2.1, bt567.2.2))) else (if a1_0 = 3 then ((segment_Destroyed.f k l0_0 a0_1 a1_1).bind fun bt572 => (some (bt572.1, bt572.2.1, bt572.2.2))) else ((segment_Written.f k l0_0 a0_1 a1_1 a1_2 a1_4).bind fun bt577 => (some (bt577.1, bt577.2.1, bt577.2.2))))))) else (some (([] : List (S56)), 0, t554)))
set_option maxHeartbeats 8000000 in
set_option maxRecDepth 100000 in
theorem segment_apply.calls (k : Nat) (A0_0 : Option Addr) (c0_0 : Nat) (l0_0 : List (S56)) (a0_1 : Int) (a1_0 : Int) (a1_1 : Int) (a1_2 : Int) (a1_3 : Int) (a1_4 : ByteArray) (r1 : List (S56)) (r2 : Int) (r3 : Int) (w : World) (hr0_0 : Kd.C k56 w A0_0 l0_0.length l0_0) (hc0_0 : l0_0.length ≤ c0_0) (h : segment_apply.f k l0_0 a0_1 a1_0 a1_1 a1_2 a1_3 a1_4 = some (r1, r2, r3)) :
  Calls Try.prog 52 #[.agg #[.slice A0_0 l0_0.length c0_0, .int .i64 a0_1], .agg #[.int .i64 a1_0, .int .i64 a1_1, .int .i64 a1_2, .int .i64 a1_3, .string a1_4]] w fun e w' => ∃ v0_ : Value, e = .returned (.tuple #[.agg #[v0_, .int .i64 r2], .int .i64 r3]) ∧ Kd.R k56 56 w' w.heap.size (fun _ => True) v0_ r1 ∧ Below w.heap.size w w' := by
 have hu24 := Try.underlying24
 have hu66 := Try.underlying66
 have hu46 := Try.underlying46
 have HR0_0 := Aside0.mk hr0_0
 have HC0_0 := Aside0.mk hc0_0
 clear hr0_0 hc0_0
 have HB := Aside0.mk (Below.refl w.heap.size w)
 have H : ((segment_form.f a1_0 a1_1 a1_2 a1_3 a1_4).bind fun t554 => (if t554 = 0 then (if a1_0 = 0 then ((segment_Created.f k l0_0 a0_1 a1_3).bind fun bt555 => (some (bt555.1, bt555.2.1, bt555.2.2.2))) else (if a1_0 = 1 then ((segment_Extended.f k l0_0 a0_1 a1_1 a1_3).bind fun bt562 => (some (bt562.1, bt562.2.1, bt562.2.2))) else (if a1_0 = 2 then ((segment_Truncated.f k l0_0 a0_1 a1_1 a1_3).bind fun bt567 => (some (bt567.1, bt567.2.1, bt567.2.2))) else (if a1_0 = 3 then ((segment_Destroyed.f k l0_0 a0_1 a1_1).bind fun bt572 => (some (bt572.1, bt572.2.1, bt572.2.2))) else ((segment_Written.f k l0_0 a0_1 a1_1 a1_2 a1_4).bind fun bt577 => (some (bt577.1, bt577.2.1, bt577.2.2))))))) else (some (([] : List (S56)), 0, t554)))) = some (r1, r2, r3) := h
 clear h
 replace H := Option.bind_eq_some_iff.mp H
 obtain ⟨t554, A30, H⟩ := H
 replace H : (if t554 = 0 then (if a1_0 = 0 then ((segment_Created.f k l0_0 a0_1 a1_3).bind fun bt555 => (some (bt555.1, bt555.2.1, bt555.2.2.2))) else (if a1_0 = 1 then ((segment_Extended.f k l0_0 a0_1 a1_1 a1_3).bind fun bt562 => (some (bt562.1, bt562.2.1, bt562.2.2))) else (if a1_0 = 2 then ((segment_Truncated.f k l0_0 a0_1 a1_1 a1_3).bind fun bt567 => (some (bt567.1, bt567.2.1, bt567.2.2))) else (if a1_0 = 3 then ((segment_Destroyed.f k l0_0 a0_1 a1_1).bind fun bt572 => (some (bt572.1, bt572.2.1, bt572.2.2))) else ((segment_Written.f k l0_0 a0_1 a1_1 a1_2 a1_4).bind fun bt577 => (some (bt577.1, bt577.2.1, bt577.2.2))))))) else (some (([] : List (S56)), 0, t554))) = some (r1, r2, r3) := H
 have A3 := Aside0.mk A30
 clear A30
 by_cases c4 : t554 = 0
 ·
  rw [if_pos c4] at H
  have c4b0 : (t554 == 0) = true := beq_iff_eq.mpr c4
  have c4b1 : (t554 != 0) = false := bne_eq_false_iff_eq.mpr c4
  clear c4
  by_cases c5 : a1_0 = 0
  ·
   rw [if_pos c5] at H
   have c5b0 : (a1_0 == 0) = true := beq_iff_eq.mpr c5
   have c5b1 : (a1_0 != 0) = false := bne_eq_false_iff_eq.mpr c5
   clear c5
   replace H := Option.bind_eq_some_iff.mp H
   obtain ⟨⟨t555, t558, t559, t560⟩, A60, H⟩ := H
   replace H : (some (t555, t558, t560)) = some (r1, r2, r3) := H
   have A6 := Aside0.mk A60
   clear A60
   simp only [Option.some.injEq, Prod.mk.injEq] at H
   obtain ⟨rfl, rfl, rfl⟩ := H
   go_enter Try.func52, Try.ntmps52
   go_wp2_with (first | ((with_reducible refine gate_dst (N := 2) rfl ?_); refine bx_ 2 #[.slice A0_0 l0_0.length c0_0, .int .i64 a0_1] 24 ?_; intro gb551 hg w7 hbox hb; have BK551 := Aside0.mk (hbox); have GW551 := gw_ hg HB; have GE551 := gw_ hg HB; replace HB := sb_ HB hb; clear hb hbox hg) | ((with_reducible refine gate_dst (N := 3) rfl ?_); refine bx_ 3 #[.int .i64 a1_0, .int .i64 a1_1, .int .i64 a1_2, .int .i64 a1_3, .string a1_4] 66 ?_; intro gb552 hg w8 hbox hb; have BK552 := Aside0.mk (hbox); have GW552 := gw_ hg HB; have GE552 := gw_ hg HB; replace HB := sb_ HB hb; have NB551_552 := nl_ hg BK551; have NB552_551 := ng_ hg BK551; replace BK551 := kb_ BK551 hb; clear hb hbox hg) | ((with_reducible refine gate_dst (N := 4) rfl ?_); refine bx_ 4 #[.slice none 0 0, .int .i64 0] 24 ?_; intro gb553 hg w9 hbox hb; have BK553 := Aside0.mk (hbox); have GW553 := gw_ hg HB; have GE553 := gw_ hg HB; replace HB := sb_ HB hb; have NB551_553 := nl_ hg BK551; have NB553_551 := ng_ hg BK551; replace BK551 := kb_ BK551 hb; have NB552_553 := nl_ hg BK552; have NB553_552 := ng_ hg BK552; replace BK552 := kb_ BK552 hb; clear hb hbox hg; have hnb10 := NB552_551.out; have hnc10 := NB551_552.out; have hnb11 := NB552_553.out; have hnc11 := NB553_552.out; have hcz12_0 := cz_ BK552 0 (.int .i64 a1_0); have hcz12_1 := cz_ BK552 1 (.int .i64 a1_1); have hcz12_2 := cz_ BK552 2 (.int .i64 a1_2); have hcz12_3 := cz_ BK552 3 (.int .i64 a1_3); have hcz12_4 := cz_ BK552 4 (.string a1_4); have hfz12_0 := blk_frozen BK552.out 0; have hfz12_1 := blk_frozen BK552.out 1; have hfz12_2 := blk_frozen BK552.out 2; have hfz12_3 := blk_frozen BK552.out 3; have hfz12_4 := blk_frozen BK552.out 4) | ((with_reducible refine gate_callee (f := 60) rfl ?_); refine gl_ 11 Try.func60 #[.agg #[.int .i64 a1_0, .int .i64 a1_1, .int .i64 a1_2, .int .i64 a1_3, .string a1_4]] ?_; (with_reducible refine (segment_form.calls a1_0 a1_1 a1_2 a1_3 a1_4 t554 _ A3.out).mono ?_); rintro e w13 ⟨rfl, hb⟩; refine ⟨_, rfl, ?_⟩; replace BK551 := kb_ BK551 hb; replace BK552 := kb_ BK552 hb; replace BK553 := kb_ BK553 hb; replace HB := sb_ HB hb; (try clear hb); (try clear hb2); (try clear hk); (try clear hi); have hcz14_0 := cz_ BK552 0 (.int .i64 a1_0); have hcz14_1 := cz_ BK552 1 (.int .i64 a1_1); have hcz14_2 := cz_ BK552 2 (.int .i64 a1_2); have hcz14_3 := cz_ BK552 3 (.int .i64 a1_3); have hcz14_4 := cz_ BK552 4 (.string a1_4); have hfz14_0 := blk_frozen BK552.out 0; have hfz14_1 := blk_frozen BK552.out 1; have hfz14_2 := blk_frozen BK552.out 2; have hfz14_3 := blk_frozen BK552.out 3; have hfz14_4 := blk_frozen BK552.out 4; have hnb15 := NB551_553.out; have hnc15 := NB553_551.out; have hcz16_0 := cz_ BK551 0 (.slice A0_0 l0_0.length c0_0); have hcz16_1 := cz_ BK551 1 (.int .i64 a0_1); have hfz16_0 := blk_frozen BK551.out 0; have hfz16_1 := blk_frozen BK551.out 1) | ((with_reducible refine gate_callee (f := 12) rfl ?_); refine gl_ 24 Try.func12 #[.agg #[.slice A0_0 l0_0.length c0_0, .int .i64 a0_1], .int .i64 a1_3] ?_; (with_reducible refine (segment_Created.calls k _ _ l0_0 a0_1 a1_3 t555 t558 t559 t560 _ ?side1 ?side2 A6.out).mono ?_); (case side1 => exact pc_ (Kd.C_below HR0_0.out HB.out)); (case side2 => exact HC0_0.out); rintro e w17 ⟨v556, rfl, ho0, hb⟩; refine ⟨_, rfl, ?_⟩; have HO557 := Aside0.mk (Kd.R_lower ho0 (below_size (pb_ HB))); replace BK551 := kb_ BK551 hb; replace BK552 := kb_ BK552 hb; replace BK553 := kb_ BK553 hb; replace HB := sb_ HB hb; (try clear hb); (try clear hb2); (try clear hk); (try clear hi); (try clear ho0)) | ((with_reducible refine gate_dst (N := 7) rfl ?_); refine bx_ 7 #[.slice none 0 0, .int .i64 0] 24 ?_; intro gb561 hg w18 hbox hb; replace HO557 := Aside0.mk (Kd.R_below (rk_ HO557) hb); have BK561 := Aside0.mk (hbox); have GW561 := gw_ hg HB; have GE561 := gw_ hg HB; replace HB := sb_ HB hb; have NB551_561 := nl_ hg BK551; have NB561_551 := ng_ hg BK551; replace BK551 := kb_ BK551 hb; have NB552_561 := nl_ hg BK552; have NB561_552 := ng_ hg BK552; replace BK552 := kb_ BK552 hb; have NB553_561 := nl_ hg BK553; have NB561_553 := ng_ hg BK553; replace BK553 := kb_ BK553 hb; clear hb hbox hg; obtain ⟨Ao19, co19, eo19⟩ := Kd.R_slice HO557.out; subst eo19; have hnb20 := NB561_551.out; have hnc20 := NB551_561.out; have hnb21 := NB561_552.out; have hnc21 := NB552_561.out; have hnb22 := NB561_553.out; have hnc22 := NB553_561.out; have hcz23_0 := cz_ BK561 0 (.slice none 0 0); have hcz23_1 := cz_ BK561 1 (.int .i64 0); have hfz23_0 := blk_frozen BK561.out 0; have hfz23_1 := blk_frozen BK561.out 1; have hcz24_0 := cz_ BK553 0 (.slice none 0 0); have hcz24_1 := cz_ BK553 1 (.int .i64 0); have hfz24_0 := blk_frozen BK553.out 0; have hfz24_1 := blk_frozen BK553.out 1))
   refine bodyPost_ret (results_ct rfl _ _ gb553 24 #[.slice Ao19 t555.length co19, .int .i64 t558] (0, 0) _ rfl (bq_ BK553) Try.underlying24 rfl (by kernel_rfl)) rfl ?_
   exact ⟨_, er_, by (with_reducible repeat (first | apply Kd.R_alloc | apply Kd.R_drewN | apply Kd.R_drew)); exact Kd.R_mono (Kd.R_far (p := ⟨gb553, 1, none⟩) (Kd.R_far (p := ⟨gb553, 0, none⟩) (Kd.R_far (p := ⟨gb561, 1, none⟩) (Kd.R_far (p := ⟨gb561, 0, none⟩) (Kd.R_types (Kd.R_types HO557.out BK561.out (by decide)) BK553.out (by decide)) (fun _ hk => hk.1.2) (.slice Ao19 t555.length co19)) (fun _ hk => hk.1.2) (.int .i64 t558)) (fun _ hk => hk.2) (.slice Ao19 t555.length co19)) (fun _ hk => hk.2) (.int .i64 t558)) (fun _ hk => trivial), pb_ HB⟩
  rw [if_neg c5] at H
  have c5b0 : (a1_0 == 0) = false := beq_eq_false_iff_ne.mpr c5
  have c5b1 : (a1_0 != 0) = true := bne_iff_ne.mpr c5
  by_cases c25 : a1_0 = 1
  ·
   rw [if_pos c25] at H
   have c25b0 : (a1_0 == 1) = true := beq_iff_eq.mpr c25
   have c25b1 : (a1_0 != 1) = false := bne_eq_false_iff_eq.mpr c25
   clear c25
   replace H := Option.bind_eq_some_iff.mp H
   obtain ⟨⟨t562, t565, t566⟩, A260, H⟩ := H
   replace H : (some (t562, t565, t566)) = some (r1, r2, r3) := H
   have A26 := Aside0.mk A260
   clear A260
   simp only [Option.some.injEq, Prod.mk.injEq] at H
   obtain ⟨rfl, rfl, rfl⟩ := H
   go_enter Try.func52, Try.ntmps52
   go_wp2_with (first | ((with_reducible refine gate_dst (N := 2) rfl ?_); refine bx_ 2 #[.slice A0_0 l0_0.length c0_0, .int .i64 a0_1] 24 ?_; intro gb551 hg w27 hbox hb; have BK551 := Aside0.mk (hbox); have GW551 := gw_ hg HB; have GE551 := gw_ hg HB; replace HB := sb_ HB hb; clear hb hbox hg) | ((with_reducible refine gate_dst (N := 3) rfl ?_); refine bx_ 3 #[.int .i64 a1_0, .int .i64 a1_1, .int .i64 a1_2, .int .i64 a1_3, .string a1_4] 66 ?_; intro gb552 hg w28 hbox hb; have BK552 := Aside0.mk (hbox); have GW552 := gw_ hg HB; have GE552 := gw_ hg HB; replace HB := sb_ HB hb; have NB551_552 := nl_ hg BK551; have NB552_551 := ng_ hg BK551; replace BK551 := kb_ BK551 hb; clear hb hbox hg) | ((with_reducible refine gate_dst (N := 4) rfl ?_); refine bx_ 4 #[.slice none 0 0, .int .i64 0] 24 ?_; intro gb553 hg w29 hbox hb; have BK553 := Aside0.mk (hbox); have GW553 := gw_ hg HB; have GE553 := gw_ hg HB; replace HB := sb_ HB hb; have NB551_553 := nl_ hg BK551; have NB553_551 := ng_ hg BK551; replace BK551 := kb_ BK551 hb; have NB552_553 := nl_ hg BK552; have NB553_552 := ng_ hg BK552; replace BK552 := kb_ BK552 hb; clear hb hbox hg; have hnb30 := NB552_551.out; have hnc30 := NB551_552.out; have hnb31 := NB552_553.out; have hnc31 := NB553_552.out; have hcz32_0 := cz_ BK552 0 (.int .i64 a1_0); have hcz32_1 := cz_ BK552 1 (.int .i64 a1_1); have hcz32_2 := cz_ BK552 2 (.int .i64 a1_2); have hcz32_3 := cz_ BK552 3 (.int .i64 a1_3); have hcz32_4 := cz_ BK552 4 (.string a1_4); have hfz32_0 := blk_frozen BK552.out 0; have hfz32_1 := blk_frozen BK552.out 1; have hfz32_2 := blk_frozen BK552.out 2; have hfz32_3 := blk_frozen BK552.out 3; have hfz32_4 := blk_frozen BK552.out 4) | ((with_reducible refine gate_callee (f := 60) rfl ?_); refine gl_ 11 Try.func60 #[.agg #[.int .i64 a1_0, .int .i64 a1_1, .int .i64 a1_2, .int .i64 a1_3, .string a1_4]] ?_; (with_reducible refine (segment_form.calls a1_0 a1_1 a1_2 a1_3 a1_4 t554 _ A3.out).mono ?_); rintro e w33 ⟨rfl, hb⟩; refine ⟨_, rfl, ?_⟩; replace BK551 := kb_ BK551 hb; replace BK552 := kb_ BK552 hb; replace BK553 := kb_ BK553 hb; replace HB := sb_ HB hb; (try clear hb); (try clear hb2); (try clear hk); (try clear hi); have hcz34_0 := cz_ BK552 0 (.int .i64 a1_0); have hcz34_1 := cz_ BK552 1 (.int .i64 a1_1); have hcz34_2 := cz_ BK552 2 (.int .i64 a1_2); have hcz34_3 := cz_ BK552 3 (.int .i64 a1_3); have hcz34_4 := cz_ BK552 4 (.string a1_4); have hfz34_0 := blk_frozen BK552.out 0; have hfz34_1 := blk_frozen BK552.out 1; have hfz34_2 := blk_frozen BK552.out 2; have hfz34_3 := blk_frozen BK552.out 3; have hfz34_4 := blk_frozen BK552.out 4; have hnb35 := NB551_553.out; have hnc35 := NB553_551.out; have hcz36_0 := cz_ BK551 0 (.slice A0_0 l0_0.length c0_0); have hcz36_1 := cz_ BK551 1 (.int .i64 a0_1); have hfz36_0 := blk_frozen BK551.out 0; have hfz36_1 := blk_frozen BK551.out 1) | ((with_reducible refine gate_callee (f := 22) rfl ?_); refine gl_ 37 Try.func22 #[.agg #[.slice A0_0 l0_0.length c0_0, .int .i64 a0_1], .int .i64 a1_1, .int .i64 a1_3] ?_; (with_reducible refine (segment_Extended.calls k _ _ l0_0 a0_1 a1_1 a1_3 t562 t565 t566 _ ?side1 ?side2 A26.out).mono ?_); (case side1 => exact pc_ (Kd.C_below HR0_0.out HB.out)); (case side2 => exact HC0_0.out); rintro e w37 ⟨v563, rfl, ho0, hb⟩; refine ⟨_, rfl, ?_⟩; have HO564 := Aside0.mk (Kd.R_lower ho0 (below_size (pb_ HB))); replace BK551 := kb_ BK551 hb; replace BK552 := kb_ BK552 hb; replace BK553 := kb_ BK553 hb; replace HB := sb_ HB hb; (try clear hb); (try clear hb2); (try clear hk); (try clear hi); (try clear ho0); obtain ⟨Ao38, co38, eo38⟩ := Kd.R_slice HO564.out; subst eo38; have hcz39_0 := cz_ BK553 0 (.slice none 0 0); have hcz39_1 := cz_ BK553 1 (.int .i64 0); have hfz39_0 := blk_frozen BK553.out 0; have hfz39_1 := blk_frozen BK553.out 1))
   refine bodyPost_ret (results_ct rfl _ _ gb553 24 #[.slice Ao38 t562.length co38, .int .i64 t565] (0, 0) _ rfl (bq_ BK553) Try.underlying24 rfl (by kernel_rfl)) rfl ?_
   exact ⟨_, er_, by (with_reducible repeat (first | apply Kd.R_alloc | apply Kd.R_drewN | apply Kd.R_drew)); exact Kd.R_mono (Kd.R_far (p := ⟨gb553, 1, none⟩) (Kd.R_far (p := ⟨gb553, 0, none⟩) (Kd.R_types HO564.out BK553.out (by decide)) (fun _ hk => hk.2) (.slice Ao38 t562.length co38)) (fun _ hk => hk.2) (.int .i64 t565)) (fun _ hk => trivial), pb_ HB⟩
  rw [if_neg c25] at H
  have c25b0 : (a1_0 == 1) = false := beq_eq_false_iff_ne.mpr c25
  have c25b1 : (a1_0 != 1) = true := bne_iff_ne.mpr c25
  by_cases c40 : a1_0 = 2
  ·
   rw [if_pos c40] at H
   have c40b0 : (a1_0 == 2) = true := beq_iff_eq.mpr c40
   have c40b1 : (a1_0 != 2) = false := bne_eq_false_iff_eq.mpr c40
   clear c40
   replace H := Option.bind_eq_some_iff.mp H
   obtain ⟨⟨t567, t570, t571⟩, A410, H⟩ := H
   replace H : (some (t567, t570, t571)) = some (r1, r2, r3) := H
   have A41 := Aside0.mk A410
   clear A410
   simp only [Option.some.injEq, Prod.mk.injEq] at H
   obtain ⟨rfl, rfl, rfl⟩ := H
   go_enter Try.func52, Try.ntmps52
   go_wp2_with (first | ((with_reducible refine gate_dst (N := 2) rfl ?_); refine bx_ 2 #[.slice A0_0 l0_0.length c0_0, .int .i64 a0_1] 24 ?_; intro gb551 hg w42 hbox hb; have BK551 := Aside0.mk (hbox); have GW551 := gw_ hg HB; have GE551 := gw_ hg HB; replace HB := sb_ HB hb; clear hb hbox hg) | ((with_reducible refine gate_dst (N := 3) rfl ?_); refine bx_ 3 #[.int .i64 a1_0, .int .i64 a1_1, .int .i64 a1_2, .int .i64 a1_3, .string a1_4] 66 ?_; intro gb552 hg w43 hbox hb; have BK552 := Aside0.mk (hbox); have GW552 := gw_ hg HB; have GE552 := gw_ hg HB; replace HB := sb_ HB hb; have NB551_552 := nl_ hg BK551; have NB552_551 := ng_ hg BK551; replace BK551 := kb_ BK551 hb; clear hb hbox hg) | ((with_reducible refine gate_dst (N := 4) rfl ?_); refine bx_ 4 #[.slice none 0 0, .int .i64 0] 24 ?_; intro gb553 hg w44 hbox hb; have BK553 := Aside0.mk (hbox); have GW553 := gw_ hg HB; have GE553 := gw_ hg HB; replace HB := sb_ HB hb; have NB551_553 := nl_ hg BK551; have NB553_551 := ng_ hg BK551; replace BK551 := kb_ BK551 hb; have NB552_553 := nl_ hg BK552; have NB553_552 := ng_ hg BK552; replace BK552 := kb_ BK552 hb; clear hb hbox hg; have hnb45 := NB552_551.out; have hnc45 := NB551_552.out; have hnb46 := NB552_553.out; have hnc46 := NB553_552.out; have hcz47_0 := cz_ BK552 0 (.int .i64 a1_0); have hcz47_1 := cz_ BK552 1 (.int .i64 a1_1); have hcz47_2 := cz_ BK552 2 (.int .i64 a1_2); have hcz47_3 := cz_ BK552 3 (.int .i64 a1_3); have hcz47_4 := cz_ BK552 4 (.string a1_4); have hfz47_0 := blk_frozen BK552.out 0; have hfz47_1 := blk_frozen BK552.out 1; have hfz47_2 := blk_frozen BK552.out 2; have hfz47_3 := blk_frozen BK552.out 3; have hfz47_4 := blk_frozen BK552.out 4) | ((with_reducible refine gate_callee (f := 60) rfl ?_); refine gl_ 11 Try.func60 #[.agg #[.int .i64 a1_0, .int .i64 a1_1, .int .i64 a1_2, .int .i64 a1_3, .string a1_4]] ?_; (with_reducible refine (segment_form.calls a1_0 a1_1 a1_2 a1_3 a1_4 t554 _ A3.out).mono ?_); rintro e w48 ⟨rfl, hb⟩; refine ⟨_, rfl, ?_⟩; replace BK551 := kb_ BK551 hb; replace BK552 := kb_ BK552 hb; replace BK553 := kb_ BK553 hb; replace HB := sb_ HB hb; (try clear hb); (try clear hb2); (try clear hk); (try clear hi); have hcz49_0 := cz_ BK552 0 (.int .i64 a1_0); have hcz49_1 := cz_ BK552 1 (.int .i64 a1_1); have hcz49_2 := cz_ BK552 2 (.int .i64 a1_2); have hcz49_3 := cz_ BK552 3 (.int .i64 a1_3); have hcz49_4 := cz_ BK552 4 (.string a1_4); have hfz49_0 := blk_frozen BK552.out 0; have hfz49_1 := blk_frozen BK552.out 1; have hfz49_2 := blk_frozen BK552.out 2; have hfz49_3 := blk_frozen BK552.out 3; have hfz49_4 := blk_frozen BK552.out 4; have hnb50 := NB551_553.out; have hnc50 := NB553_551.out; have hcz51_0 := cz_ BK551 0 (.slice A0_0 l0_0.length c0_0); have hcz51_1 := cz_ BK551 1 (.int .i64 a0_1); have hfz51_0 := blk_frozen BK551.out 0; have hfz51_1 := blk_frozen BK551.out 1) | ((with_reducible refine gate_callee (f := 23) rfl ?_); refine gl_ 47 Try.func23 #[.agg #[.slice A0_0 l0_0.length c0_0, .int .i64 a0_1], .int .i64 a1_1, .int .i64 a1_3] ?_; (with_reducible refine (segment_Truncated.calls k _ _ l0_0 a0_1 a1_1 a1_3 t567 t570 t571 _ ?side1 ?side2 A41.out).mono ?_); (case side1 => exact pc_ (Kd.C_below HR0_0.out HB.out)); (case side2 => exact HC0_0.out); rintro e w52 ⟨v568, rfl, ho0, hb⟩; refine ⟨_, rfl, ?_⟩; have HO569 := Aside0.mk (Kd.R_lower ho0 (below_size (pb_ HB))); replace BK551 := kb_ BK551 hb; replace BK552 := kb_ BK552 hb; replace BK553 := kb_ BK553 hb; replace HB := sb_ HB hb; (try clear hb); (try clear hb2); (try clear hk); (try clear hi); (try clear ho0); obtain ⟨Ao53, co53, eo53⟩ := Kd.R_slice HO569.out; subst eo53; have hcz54_0 := cz_ BK553 0 (.slice none 0 0); have hcz54_1 := cz_ BK553 1 (.int .i64 0); have hfz54_0 := blk_frozen BK553.out 0; have hfz54_1 := blk_frozen BK553.out 1))
   refine bodyPost_ret (results_ct rfl _ _ gb553 24 #[.slice Ao53 t567.length co53, .int .i64 t570] (0, 0) _ rfl (bq_ BK553) Try.underlying24 rfl (by kernel_rfl)) rfl ?_
   exact ⟨_, er_, by (with_reducible repeat (first | apply Kd.R_alloc | apply Kd.R_drewN | apply Kd.R_drew)); exact Kd.R_mono (Kd.R_far (p := ⟨gb553, 1, none⟩) (Kd.R_far (p := ⟨gb553, 0, none⟩) (Kd.R_types HO569.out BK553.out (by decide)) (fun _ hk => hk.2) (.slice Ao53 t567.length co53)) (fun _ hk => hk.2) (.int .i64 t570)) (fun _ hk => trivial), pb_ HB⟩
  rw [if_neg c40] at H
  have c40b0 : (a1_0 == 2) = false := beq_eq_false_iff_ne.mpr c40
  have c40b1 : (a1_0 != 2) = true := bne_iff_ne.mpr c40
  by_cases c55 : a1_0 = 3
  ·
   rw [if_pos c55] at H
   have c55b0 : (a1_0 == 3) = true := beq_iff_eq.mpr c55
   have c55b1 : (a1_0 != 3) = false := bne_eq_false_iff_eq.mpr c55
   clear c55
   replace H := Option.bind_eq_some_iff.mp H
   obtain ⟨⟨t572, t575, t576⟩, A560, H⟩ := H
   replace H : (some (t572, t575, t576)) = some (r1, r2, r3) := H
   have A56 := Aside0.mk A560
   clear A560
   simp only [Option.some.injEq, Prod.mk.injEq] at H
   obtain ⟨rfl, rfl, rfl⟩ := H
   go_enter Try.func52, Try.ntmps52
   go_wp2_with (first | ((with_reducible refine gate_dst (N := 2) rfl ?_); refine bx_ 2 #[.slice A0_0 l0_0.length c0_0, .int .i64 a0_1] 24 ?_; intro gb551 hg w57 hbox hb; have BK551 := Aside0.mk (hbox); have GW551 := gw_ hg HB; have GE551 := gw_ hg HB; replace HB := sb_ HB hb; clear hb hbox hg) | ((with_reducible refine gate_dst (N := 3) rfl ?_); refine bx_ 3 #[.int .i64 a1_0, .int .i64 a1_1, .int .i64 a1_2, .int .i64 a1_3, .string a1_4] 66 ?_; intro gb552 hg w58 hbox hb; have BK552 := Aside0.mk (hbox); have GW552 := gw_ hg HB; have GE552 := gw_ hg HB; replace HB := sb_ HB hb; have NB551_552 := nl_ hg BK551; have NB552_551 := ng_ hg BK551; replace BK551 := kb_ BK551 hb; clear hb hbox hg) | ((with_reducible refine gate_dst (N := 4) rfl ?_); refine bx_ 4 #[.slice none 0 0, .int .i64 0] 24 ?_; intro gb553 hg w59 hbox hb; have BK553 := Aside0.mk (hbox); have GW553 := gw_ hg HB; have GE553 := gw_ hg HB; replace HB := sb_ HB hb; have NB551_553 := nl_ hg BK551; have NB553_551 := ng_ hg BK551; replace BK551 := kb_ BK551 hb; have NB552_553 := nl_ hg BK552; have NB553_552 := ng_ hg BK552; replace BK552 := kb_ BK552 hb; clear hb hbox hg; have hnb60 := NB552_551.out; have hnc60 := NB551_552.out; have hnb61 := NB552_553.out; have hnc61 := NB553_552.out; have hcz62_0 := cz_ BK552 0 (.int .i64 a1_0); have hcz62_1 := cz_ BK552 1 (.int .i64 a1_1); have hcz62_2 := cz_ BK552 2 (.int .i64 a1_2); have hcz62_3 := cz_ BK552 3 (.int .i64 a1_3); have hcz62_4 := cz_ BK552 4 (.string a1_4); have hfz62_0 := blk_frozen BK552.out 0; have hfz62_1 := blk_frozen BK552.out 1; have hfz62_2 := blk_frozen BK552.out 2; have hfz62_3 := blk_frozen BK552.out 3; have hfz62_4 := blk_frozen BK552.out 4) | ((with_reducible refine gate_callee (f := 60) rfl ?_); refine gl_ 11 Try.func60 #[.agg #[.int .i64 a1_0, .int .i64 a1_1, .int .i64 a1_2, .int .i64 a1_3, .string a1_4]] ?_; (with_reducible refine (segment_form.calls a1_0 a1_1 a1_2 a1_3 a1_4 t554 _ A3.out).mono ?_); rintro e w63 ⟨rfl, hb⟩; refine ⟨_, rfl, ?_⟩; replace BK551 := kb_ BK551 hb; replace BK552 := kb_ BK552 hb; replace BK553 := kb_ BK553 hb; replace HB := sb_ HB hb; (try clear hb); (try clear hb2); (try clear hk); (try clear hi); have hcz64_0 := cz_ BK552 0 (.int .i64 a1_0); have hcz64_1 := cz_ BK552 1 (.int .i64 a1_1); have hcz64_2 := cz_ BK552 2 (.int .i64 a1_2); have hcz64_3 := cz_ BK552 3 (.int .i64 a1_3); have hcz64_4 := cz_ BK552 4 (.string a1_4); have hfz64_0 := blk_frozen BK552.out 0; have hfz64_1 := blk_frozen BK552.out 1; have hfz64_2 := blk_frozen BK552.out 2; have hfz64_3 := blk_frozen BK552.out 3; have hfz64_4 := blk_frozen BK552.out 4; have hnb65 := NB551_553.out; have hnc65 := NB553_551.out; have hcz66_0 := cz_ BK551 0 (.slice A0_0 l0_0.length c0_0); have hcz66_1 := cz_ BK551 1 (.int .i64 a0_1); have hfz66_0 := blk_frozen BK551.out 0; have hfz66_1 := blk_frozen BK551.out 1) | ((with_reducible refine gate_callee (f := 14) rfl ?_); refine gl_ 55 Try.func14 #[.agg #[.slice A0_0 l0_0.length c0_0, .int .i64 a0_1], .int .i64 a1_1] ?_; (with_reducible refine (segment_Destroyed.calls k _ _ l0_0 a0_1 a1_1 t572 t575 t576 _ ?side1 ?side2 A56.out).mono ?_); (case side1 => exact pc_ (Kd.C_below HR0_0.out HB.out)); (case side2 => exact HC0_0.out); rintro e w67 ⟨v573, rfl, ho0, hb⟩; refine ⟨_, rfl, ?_⟩; have HO574 := Aside0.mk (Kd.R_lower ho0 (below_size (pb_ HB))); replace BK551 := kb_ BK551 hb; replace BK552 := kb_ BK552 hb; replace BK553 := kb_ BK553 hb; replace HB := sb_ HB hb; (try clear hb); (try clear hb2); (try clear hk); (try clear hi); (try clear ho0); obtain ⟨Ao68, co68, eo68⟩ := Kd.R_slice HO574.out; subst eo68; have hcz69_0 := cz_ BK553 0 (.slice none 0 0); have hcz69_1 := cz_ BK553 1 (.int .i64 0); have hfz69_0 := blk_frozen BK553.out 0; have hfz69_1 := blk_frozen BK553.out 1))
   refine bodyPost_ret (results_ct rfl _ _ gb553 24 #[.slice Ao68 t572.length co68, .int .i64 t575] (0, 0) _ rfl (bq_ BK553) Try.underlying24 rfl (by kernel_rfl)) rfl ?_
   exact ⟨_, er_, by (with_reducible repeat (first | apply Kd.R_alloc | apply Kd.R_drewN | apply Kd.R_drew)); exact Kd.R_mono (Kd.R_far (p := ⟨gb553, 1, none⟩) (Kd.R_far (p := ⟨gb553, 0, none⟩) (Kd.R_types HO574.out BK553.out (by decide)) (fun _ hk => hk.2) (.slice Ao68 t572.length co68)) (fun _ hk => hk.2) (.int .i64 t575)) (fun _ hk => trivial), pb_ HB⟩
  rw [if_neg c55] at H
  have c55b0 : (a1_0 == 3) = false := beq_eq_false_iff_ne.mpr c55
  have c55b1 : (a1_0 != 3) = true := bne_iff_ne.mpr c55
  replace H := Option.bind_eq_some_iff.mp H
  obtain ⟨⟨t577, t580, t581⟩, A700, H⟩ := H
  replace H : (some (t577, t580, t581)) = some (r1, r2, r3) := H
  have A70 := Aside0.mk A700
  clear A700
  simp only [Option.some.injEq, Prod.mk.injEq] at H
  obtain ⟨rfl, rfl, rfl⟩ := H
  go_enter Try.func52, Try.ntmps52
  go_wp2_with (first | ((with_reducible refine gate_dst (N := 2) rfl ?_); refine bx_ 2 #[.slice A0_0 l0_0.length c0_0, .int .i64 a0_1] 24 ?_; intro gb551 hg w71 hbox hb; have BK551 := Aside0.mk (hbox); have GW551 := gw_ hg HB; have GE551 := gw_ hg HB; replace HB := sb_ HB hb; clear hb hbox hg) | ((with_reducible refine gate_dst (N := 3) rfl ?_); refine bx_ 3 #[.int .i64 a1_0, .int .i64 a1_1, .int .i64 a1_2, .int .i64 a1_3, .string a1_4] 66 ?_; intro gb552 hg w72 hbox hb; have BK552 := Aside0.mk (hbox); have GW552 := gw_ hg HB; have GE552 := gw_ hg HB; replace HB := sb_ HB hb; have NB551_552 := nl_ hg BK551; have NB552_551 := ng_ hg BK551; replace BK551 := kb_ BK551 hb; clear hb hbox hg) | ((with_reducible refine gate_dst (N := 4) rfl ?_); refine bx_ 4 #[.slice none 0 0, .int .i64 0] 24 ?_; intro gb553 hg w73 hbox hb; have BK553 := Aside0.mk (hbox); have GW553 := gw_ hg HB; have GE553 := gw_ hg HB; replace HB := sb_ HB hb; have NB551_553 := nl_ hg BK551; have NB553_551 := ng_ hg BK551; replace BK551 := kb_ BK551 hb; have NB552_553 := nl_ hg BK552; have NB553_552 := ng_ hg BK552; replace BK552 := kb_ BK552 hb; clear hb hbox hg; have hnb74 := NB552_551.out; have hnc74 := NB551_552.out; have hnb75 := NB552_553.out; have hnc75 := NB553_552.out; have hcz76_0 := cz_ BK552 0 (.int .i64 a1_0); have hcz76_1 := cz_ BK552 1 (.int .i64 a1_1); have hcz76_2 := cz_ BK552 2 (.int .i64 a1_2); have hcz76_3 := cz_ BK552 3 (.int .i64 a1_3); have hcz76_4 := cz_ BK552 4 (.string a1_4); have hfz76_0 := blk_frozen BK552.out 0; have hfz76_1 := blk_frozen BK552.out 1; have hfz76_2 := blk_frozen BK552.out 2; have hfz76_3 := blk_frozen BK552.out 3; have hfz76_4 := blk_frozen BK552.out 4) | ((with_reducible refine gate_callee (f := 60) rfl ?_); refine gl_ 11 Try.func60 #[.agg #[.int .i64 a1_0, .int .i64 a1_1, .int .i64 a1_2, .int .i64 a1_3, .string a1_4]] ?_; (with_reducible refine (segment_form.calls a1_0 a1_1 a1_2 a1_3 a1_4 t554 _ A3.out).mono ?_); rintro e w77 ⟨rfl, hb⟩; refine ⟨_, rfl, ?_⟩; replace BK551 := kb_ BK551 hb; replace BK552 := kb_ BK552 hb; replace BK553 := kb_ BK553 hb; replace HB := sb_ HB hb; (try clear hb); (try clear hb2); (try clear hk); (try clear hi); have hcz78_0 := cz_ BK552 0 (.int .i64 a1_0); have hcz78_1 := cz_ BK552 1 (.int .i64 a1_1); have hcz78_2 := cz_ BK552 2 (.int .i64 a1_2); have hcz78_3 := cz_ BK552 3 (.int .i64 a1_3); have hcz78_4 := cz_ BK552 4 (.string a1_4); have hfz78_0 := blk_frozen BK552.out 0; have hfz78_1 := blk_frozen BK552.out 1; have hfz78_2 := blk_frozen BK552.out 2; have hfz78_3 := blk_frozen BK552.out 3; have hfz78_4 := blk_frozen BK552.out 4; have hnb79 := NB551_553.out; have hnc79 := NB553_551.out; have hcz80_0 := cz_ BK551 0 (.slice A0_0 l0_0.length c0_0); have hcz80_1 := cz_ BK551 1 (.int .i64 a0_1); have hfz80_0 := blk_frozen BK551.out 0; have hfz80_1 := blk_frozen BK551.out 1) | ((with_reducible refine gate_callee (f := 27) rfl ?_); refine gl_ 66 Try.func27 #[.agg #[.slice A0_0 l0_0.length c0_0, .int .i64 a0_1], .agg #[.int .i64 a1_1, .int .i64 a1_2], .string a1_4] ?_; (with_reducible refine (segment_Written.calls k _ _ l0_0 a0_1 a1_1 a1_2 a1_4 t577 t580 t581 _ ?side1 ?side2 A70.out).mono ?_); (case side1 => exact pc_ (Kd.C_below HR0_0.out HB.out)); (case side2 => exact HC0_0.out); rintro e w81 ⟨v578, rfl, ho0, hb⟩; refine ⟨_, rfl, ?_⟩; have HO579 := Aside0.mk (Kd.R_lower ho0 (below_size (pb_ HB))); replace BK551 := kb_ BK551 hb; replace BK552 := kb_ BK552 hb; replace BK553 := kb_ BK553 hb; replace HB := sb_ HB hb; (try clear hb); (try clear hb2); (try clear hk); (try clear hi); (try clear ho0); obtain ⟨Ao82, co82, eo82⟩ := Kd.R_slice HO579.out; subst eo82; have hcz83_0 := cz_ BK553 0 (.slice none 0 0); have hcz83_1 := cz_ BK553 1 (.int .i64 0); have hfz83_0 := blk_frozen BK553.out 0; have hfz83_1 := blk_frozen BK553.out 1))
  refine bodyPost_ret (results_ct rfl _ _ gb553 24 #[.slice Ao82 t577.length co82, .int .i64 t580] (0, 0) _ rfl (bq_ BK553) Try.underlying24 rfl (by kernel_rfl)) rfl ?_
  exact ⟨_, er_, by (with_reducible repeat (first | apply Kd.R_alloc | apply Kd.R_drewN | apply Kd.R_drew)); exact Kd.R_mono (Kd.R_far (p := ⟨gb553, 1, none⟩) (Kd.R_far (p := ⟨gb553, 0, none⟩) (Kd.R_types HO579.out BK553.out (by decide)) (fun _ hk => hk.2) (.slice Ao82 t577.length co82)) (fun _ hk => hk.2) (.int .i64 t580)) (fun _ hk => trivial), pb_ HB⟩
 rw [if_neg c4] at H
 have c4b0 : (t554 == 0) = false := beq_eq_false_iff_ne.mpr c4
 have c4b1 : (t554 != 0) = true := bne_iff_ne.mpr c4
 simp only [Option.some.injEq, Prod.mk.injEq] at H
 obtain ⟨rfl, rfl, rfl⟩ := H
 go_enter Try.func52, Try.ntmps52
 go_wp2_with (first | ((with_reducible refine gate_dst (N := 2) rfl ?_); refine bx_ 2 #[.slice A0_0 l0_0.length c0_0, .int .i64 a0_1] 24 ?_; intro gb551 hg w84 hbox hb; have BK551 := Aside0.mk (hbox); have GW551 := gw_ hg HB; have GE551 := gw_ hg HB; replace HB := sb_ HB hb; clear hb hbox hg) | ((with_reducible refine gate_dst (N := 3) rfl ?_); refine bx_ 3 #[.int .i64 a1_0, .int .i64 a1_1, .int .i64 a1_2, .int .i64 a1_3, .string a1_4] 66 ?_; intro gb552 hg w85 hbox hb; have BK552 := Aside0.mk (hbox); have GW552 := gw_ hg HB; have GE552 := gw_ hg HB; replace HB := sb_ HB hb; have NB551_552 := nl_ hg BK551; have NB552_551 := ng_ hg BK551; replace BK551 := kb_ BK551 hb; clear hb hbox hg) | ((with_reducible refine gate_dst (N := 4) rfl ?_); refine bx_ 4 #[.slice none 0 0, .int .i64 0] 24 ?_; intro gb553 hg w86 hbox hb; have BK553 := Aside0.mk (hbox); have GW553 := gw_ hg HB; have GE553 := gw_ hg HB; replace HB := sb_ HB hb; have NB551_553 := nl_ hg BK551; have NB553_551 := ng_ hg BK551; replace BK551 := kb_ BK551 hb; have NB552_553 := nl_ hg BK552; have NB553_552 := ng_ hg BK552; replace BK552 := kb_ BK552 hb; clear hb hbox hg; have hnb87 := NB552_551.out; have hnc87 := NB551_552.out; have hnb88 := NB552_553.out; have hnc88 := NB553_552.out; have hcz89_0 := cz_ BK552 0 (.int .i64 a1_0); have hcz89_1 := cz_ BK552 1 (.int .i64 a1_1); have hcz89_2 := cz_ BK552 2 (.int .i64 a1_2); have hcz89_3 := cz_ BK552 3 (.int .i64 a1_3); have hcz89_4 := cz_ BK552 4 (.string a1_4); have hfz89_0 := blk_frozen BK552.out 0; have hfz89_1 := blk_frozen BK552.out 1; have hfz89_2 := blk_frozen BK552.out 2; have hfz89_3 := blk_frozen BK552.out 3; have hfz89_4 := blk_frozen BK552.out 4) | ((with_reducible refine gate_callee (f := 60) rfl ?_); refine gl_ 11 Try.func60 #[.agg #[.int .i64 a1_0, .int .i64 a1_1, .int .i64 a1_2, .int .i64 a1_3, .string a1_4]] ?_; (with_reducible refine (segment_form.calls a1_0 a1_1 a1_2 a1_3 a1_4 t554 _ A3.out).mono ?_); rintro e w90 ⟨rfl, hb⟩; refine ⟨_, rfl, ?_⟩; replace BK551 := kb_ BK551 hb; replace BK552 := kb_ BK552 hb; replace BK553 := kb_ BK553 hb; replace HB := sb_ HB hb; (try clear hb); (try clear hb2); (try clear hk); (try clear hi); have hnb91 := NB553_551.out; have hnc91 := NB551_553.out; have hcz92_0 := cz_ BK553 0 (.slice none 0 0); have hcz92_1 := cz_ BK553 1 (.int .i64 0); have hfz92_0 := blk_frozen BK553.out 0; have hfz92_1 := blk_frozen BK553.out 1))
 refine bodyPost_ret (results_ct rfl _ _ gb553 24 #[.slice none 0 0, .int .i64 0] (0, 0) _ rfl (bq_ BK553) Try.underlying24 rfl (by kernel_rfl)) rfl ?_
 exact ⟨_, er_, by first | exact Kd.R_nil _ _ _ _ _ | exact Kd.N_nil _ _ _ _ _ | exact Kd.V_nil _ _ _ _ _ | exact Kd.Q_nil _ _ _ _ _ | exact Kd.S_nil _ _ _ _ _, pb_ HB⟩
def segment_Applied.l0 : Nat → List (S66) → List (S66) → Int → Int → List (S56) → Int → Option ((List (S56)) × Int × Int × Int)
  | 0, _, _, _, _, _, _ => none
  | k + 1, x1, x33, x34, x35, x590000, x590001 => if x35 < x34 then (if 0 ≤ x35 then (if x35 < (x33.length : Int) then ((segment_apply.f k x590000 x590001 ((rd_T66 x33 x35).f0) ((rd_T66 x33 x35).f1) ((rd_T66 x33 x35).f2) ((rd_T66 x33 x35).f3) ((rd_T66 x33 x35).f4)).bind fun bt592 => (if bt592.2.2 = 0 then (segment_Applied.l0 k x1 x33 x34 (wrap64 (x35 + 1)) bt592.1 bt592.2.1) else (some (([] : List (S56)), 0, x35, bt592.2.2)))) else (none)) else (none)) else (some (x590000, x590001, (x1.length : Int), 0))
def segment_Applied.f (k : Nat) (l0_0 : List (S56)) (a0_1 : Int) (l1 : List (S66)) : Option ((List (S56)) × Int × Int × Int) := (segment_CheckStore.f k l0_0 a0_1).bind fun bt584 => (if bt584.2 = 0 then (if (l1.length : Int) > 40 then (some (([] : List (S56)), 0, 0, 2)) else ((api_Segment_38.f l0_0).bind fun t586 => (segment_Applied.l0 k l1 l1 (l1.length : Int) 0 t586 a0_1))) else (some (([] : List (S56)), 0, 0, bt584.2)))
def segment_Applied.T6 : Bool × List (List Nat × List Nat) := (true, [([], []), ([0], [0]), ([1], [1]), ([], []), ([3], [3]), ([2, 4], [2, 4]), ([], []), ([6, 5, 2, 0, 1, 2, 3, 4, 5, 6], [5, 6])])
def segment_Applied.B6 : List Nat := [0, 1, 3, 0, 8, 31, 0, 127]
theorem segment_Applied.tab6 : rtab .any (opsOf Try.f32 6) = segment_Applied.T6 := by kernel_rfl
theorem segment_Applied.bits6 : waitsOk segment_Applied.T6.2 segment_Applied.B6 = true := by kernel_rfl
set_option maxHeartbeats 8000000 in
set_option maxRecDepth 100000 in
theorem segment_Applied.calls (k : Nat) (A0_0 : Option Addr) (c0_0 : Nat) (l0_0 : List (S56)) (a0_1 : Int) (A1 : Option Addr) (c1 : Nat) (l1 : List (S66)) (r1 : List (S56)) (r2 : Int) (r3 : Int) (r4 : Int) (w : World) (hr0_0 : Kd.C k56 w A0_0 l0_0.length l0_0) (hc0_0 : l0_0.length ≤ c0_0) (hr1 : Kd.C k66 w A1 l1.length l1) (hc1 : l1.length ≤ c1) (h : segment_Applied.f k l0_0 a0_1 l1 = some (r1, r2, r3, r4)) :
  Calls Try.prog 32 #[.agg #[.slice A0_0 l0_0.length c0_0, .int .i64 a0_1], .slice A1 l1.length c1] w fun e w' => ∃ v0_ : Value, e = .returned (.tuple #[.agg #[v0_, .int .i64 r2], .int .i64 r3, .int .i64 r4]) ∧ Kd.R k56 56 w' w.heap.size (fun _ => True) v0_ r1 ∧ Below w.heap.size w w' := by
 have hu24 := Try.underlying24
 have hu66 := Try.underlying66
 have HR0_0 := Aside0.mk hr0_0
 have HC0_0 := Aside0.mk hc0_0
 clear hr0_0 hc0_0
 have HR1 := Aside0.mk hr1
 have HC1 := Aside0.mk hc1
 clear hr1 hc1
 have HB := Aside0.mk (Below.refl w.heap.size w)
 have H : ((segment_CheckStore.f k l0_0 a0_1).bind fun bt584 => (if bt584.2 = 0 then (if (l1.length : Int) > 40 then (some (([] : List (S56)), 0, 0, 2)) else ((api_Segment_38.f l0_0).bind fun t586 => (segment_Applied.l0 k l1 l1 (l1.length : Int) 0 t586 a0_1))) else (some (([] : List (S56)), 0, 0, bt584.2)))) = some (r1, r2, r3, r4) := h
 clear h
 replace H := Option.bind_eq_some_iff.mp H
 obtain ⟨⟨t584, t585⟩, A30, H⟩ := H
 replace H : (if t585 = 0 then (if (l1.length : Int) > 40 then (some (([] : List (S56)), 0, 0, 2)) else ((api_Segment_38.f l0_0).bind fun t586 => (segment_Applied.l0 k l1 l1 (l1.length : Int) 0 t586 a0_1))) else (some (([] : List (S56)), 0, 0, t585))) = some (r1, r2, r3, r4) := H
 have A3 := Aside0.mk A30
 clear A30
 by_cases c4 : t585 = 0
 ·
  rw [if_pos c4] at H
  have c4b0 : (t585 == 0) = true := beq_iff_eq.mpr c4
  have c4b1 : (t585 != 0) = false := bne_eq_false_iff_eq.mpr c4
  clear c4
  by_cases c5 : (l1.length : Int) > 40
  ·
   rw [if_pos c5] at H
   have c5b0 : decide (40 < (l1.length : Int)) = true := decide_eq_true c5
   have c5b1 : decide (40 < l1.length) = true := decide_eq_true (by omega)
   clear c5
   simp only [Option.some.injEq, Prod.mk.injEq] at H
   obtain ⟨rfl, rfl, rfl, rfl⟩ := H
   go_enter Try.func32, Try.ntmps32
   go_wp2_with (first | ((with_reducible refine gate_dst (N := 2) rfl ?_); refine bx_ 2 #[.slice A0_0 l0_0.length c0_0, .int .i64 a0_1] 24 ?_; intro gb582 hg w6 hbox hb; have BK582 := Aside0.mk (hbox); have GW582 := gw_ hg HB; have GE582 := gw_ hg HB; replace HB := sb_ HB hb; clear hb hbox hg) | ((with_reducible refine gate_dst (N := 4) rfl ?_); refine bx_ 4 #[.slice none 0 0, .int .i64 0] 24 ?_; intro gb583 hg w7 hbox hb; have BK583 := Aside0.mk (hbox); have GW583 := gw_ hg HB; have GE583 := gw_ hg HB; replace HB := sb_ HB hb; have NB582_583 := nl_ hg BK582; have NB583_582 := ng_ hg BK582; replace BK582 := kb_ BK582 hb; clear hb hbox hg; have hnb8 := NB582_583.out; have hnc8 := NB583_582.out; have hcz9_0 := cz_ BK582 0 (.slice A0_0 l0_0.length c0_0); have hcz9_1 := cz_ BK582 1 (.int .i64 a0_1); have hfz9_0 := blk_frozen BK582.out 0; have hfz9_1 := blk_frozen BK582.out 1) | ((with_reducible refine gate_callee (f := 18) rfl ?_); refine gl_ 16 Try.func18 #[.agg #[.slice A0_0 l0_0.length c0_0, .int .i64 a0_1]] ?_; (with_reducible refine (segment_CheckStore.calls k _ _ l0_0 a0_1 t584 t585 _ ?side1 ?side2 A3.out).mono ?_); (case side1 => exact pc_ (Kd.C_below HR0_0.out HB.out)); (case side2 => exact HC0_0.out); rintro e w10 ⟨rfl, hb⟩; refine ⟨_, rfl, ?_⟩; replace BK582 := kb_ BK582 hb; replace BK583 := kb_ BK583 hb; replace HB := sb_ HB hb; (try clear hb); (try clear hb2); (try clear hk); (try clear hi); have hcz11_0 := cz_ BK583 0 (.slice none 0 0); have hcz11_1 := cz_ BK583 1 (.int .i64 0); have hfz11_0 := blk_frozen BK583.out 0; have hfz11_1 := blk_frozen BK583.out 1))
   refine bodyPost_ret (results_ctt rfl _ _ gb583 24 #[.slice none 0 0, .int .i64 0] (0, 0) _ rfl (bq_ BK583) Try.underlying24 rfl (by kernel_rfl)) rfl ?_
   exact ⟨_, er_, by first | exact Kd.R_nil _ _ _ _ _ | exact Kd.N_nil _ _ _ _ _ | exact Kd.V_nil _ _ _ _ _ | exact Kd.Q_nil _ _ _ _ _ | exact Kd.S_nil _ _ _ _ _, pb_ HB⟩
  rw [if_neg c5] at H
  have c5b0 : decide (40 < (l1.length : Int)) = false := decide_eq_false c5
  have c5b1 : decide (40 < l1.length) = false := decide_eq_false (by omega)
  clear c5
  replace H := Option.bind_eq_some_iff.mp H
  obtain ⟨t586, A120, H⟩ := H
  replace H : (segment_Applied.l0 k l1 l1 (l1.length : Int) 0 t586 a0_1) = some (r1, r2, r3, r4) := H
  have A12 := Aside0.mk A120
  clear A120
  have H' := Aside0.mk H
  clear H
  go_enter Try.func32, Try.ntmps32
  try go_wp2_with (first | ((with_reducible refine gate_dst (N := 2) rfl ?_); refine bx_ 2 #[.slice A0_0 l0_0.length c0_0, .int .i64 a0_1] 24 ?_; intro gb582 hg w13 hbox hb; have BK582 := Aside0.mk (hbox); have GW582 := gw_ hg HB; have GE582 := gw_ hg HB; replace HB := sb_ HB hb; clear hb hbox hg) | ((with_reducible refine gate_dst (N := 4) rfl ?_); refine bx_ 4 #[.slice none 0 0, .int .i64 0] 24 ?_; intro gb583 hg w14 hbox hb; have BK583 := Aside0.mk (hbox); have GW583 := gw_ hg HB; have GE583 := gw_ hg HB; replace HB := sb_ HB hb; have NB582_583 := nl_ hg BK582; have NB583_582 := ng_ hg BK582; replace BK582 := kb_ BK582 hb; clear hb hbox hg; have hnb15 := NB582_583.out; have hnc15 := NB583_582.out; have hcz16_0 := cz_ BK582 0 (.slice A0_0 l0_0.length c0_0); have hcz16_1 := cz_ BK582 1 (.int .i64 a0_1); have hfz16_0 := blk_frozen BK582.out 0; have hfz16_1 := blk_frozen BK582.out 1) | ((with_reducible refine gate_callee (f := 18) rfl ?_); refine gl_ 16 Try.func18 #[.agg #[.slice A0_0 l0_0.length c0_0, .int .i64 a0_1]] ?_; (with_reducible refine (segment_CheckStore.calls k _ _ l0_0 a0_1 t584 t585 _ ?side1 ?side2 A3.out).mono ?_); (case side1 => exact pc_ (Kd.C_below HR0_0.out HB.out)); (case side2 => exact HC0_0.out); rintro e w17 ⟨rfl, hb⟩; refine ⟨_, rfl, ?_⟩; replace BK582 := kb_ BK582 hb; replace BK583 := kb_ BK583 hb; replace HB := sb_ HB hb; (try clear hb); (try clear hb2); (try clear hk); (try clear hi)))
  replace BK582 := Aside0.mk (blk_drew BK582.out)
  replace BK583 := Aside0.mk (blk_drew BK583.out)
  replace HB := Aside0.mk (below_drew1 HB.out)
  refine start_ (n := 8) (S := fun w' => w'.cell? ⟨gb582, 0, none⟩ = some (.slice A0_0 l0_0.length c0_0) ∧ w'.cell? ⟨gb582, 1, none⟩ = some (.int .i64 a0_1)) (ds := []) #[false, false, false, false, false, false, false, false] (by kernel_rfl) rfl rfl ⟨cy_ BK582 0, cy_ BK582 1⟩ (fun hHeld => ?_); refine with_tabW segment_Applied.tab6 segment_Applied.bits6 (fun HT_ HW_ => ?_)
  generalize w17.drew = w18 at BK582 BK583 HB hHeld ⊢
  refine pu_ 0 27 HT_ ?_
  refine pu_ 3 30 HT_ ?_
  refine tk_ 1 28 HT_ HW_ hHeld rfl (Or.inl ⟨by rfl, by rintro w' ⟨s0, s1⟩; go_simp; with_reducible rfl⟩) ?_
  refine tk_ 4 31 HT_ HW_ hHeld rfl (Or.inl ⟨by rfl, by rintro w' ⟨s0, s1⟩; go_simp; with_reducible rfl⟩) ?_
  refine join_ (σ := Value × Nat) 1 #[true, true, true, true, true, true, true, false] (fun s_ => [(29, s_.1), (9, .pointer (some ⟨s_.2, 0, none⟩)), (32, .agg #[s_.1, .int .i64 a0_1])]) (fun s_ w' => (w'.cell? ⟨gb582, 0, none⟩ = some (.slice A0_0 l0_0.length c0_0) ∧ w'.cell? ⟨gb582, 1, none⟩ = some (.int .i64 a0_1)) ∧ (Kd.R k56 56 w' w.heap.size (fun _ => True) s_.1 t586) ∧ (w'.heap[gb582]? = some (.cells #[.slice A0_0 l0_0.length c0_0, .int .i64 a0_1] 24 (0, 0))) ∧ (w'.heap[gb583]? = some (.cells #[.slice none 0 0, .int .i64 0] 24 (0, 0))) ∧ (w'.heap[s_.2]? = some (.cells #[.slice none 0 0, .int .i64 0] 24 (0, 0))) ∧ (w.heap.size ≤ s_.2) ∧ (w.heap.size ≤ s_.2) ∧ (gb582 ≠ s_.2) ∧ (s_.2 ≠ gb582) ∧ (gb583 ≠ s_.2) ∧ (s_.2 ≠ gb583) ∧ (Below w.heap.size w w')) ?_ ?_
  rotate_left
  ·
   intro hCont
   refine two_ (i := 2) (j := 6) (Ni := some 29) (Nj := some 9) #[true, true, true, true, true, false, false, false] #[true, true, false, true, true, false, true, false] rfl rfl rfl rfl (two_of HT_.out (by kernel_rfl)) (by decide) (by decide) (fun K hK => ?_) (fun K hK => ?_)
   ·
    refine goes_ Try.func38 (by kernel_rfl) rfl #[.slice A0_0 l0_0.length c0_0] (by rfl) rfl rfl (by (try simp only [List.map_toArray, List.map_cons, List.map_nil]); first | done | rfl | (simp only [List.length_drop, List.length_take]; rfl)) ?_
    with_reducible refine (api_Segment_38.calls _ _ l0_0 t586 _ ?side1 ?side2 A12.out).mono ?_
    (case side1 => exact pc_ (Kd.C_below HR0_0.out HB.out))
    (case side2 => exact HC0_0.out)
    rintro e w19 ⟨v587, rfl, ho0, hb⟩
    refine ⟨_, rfl, ?_⟩
    have HO588 := Aside0.mk (Kd.R_lower ho0 (below_size (pb_ HB)))
    replace BK582 := kb_ BK582 hb
    replace BK583 := kb_ BK583 hb
    replace HB := sb_ HB hb
    (try clear hb)
    (try clear hb2)
    (try clear hk)
    (try clear hi)
    (try clear ho0)
    obtain ⟨Ao20, co20, eo20⟩ := Kd.R_slice HO588.out
    (first | subst eo20 | (injection eo20 with f1_ f2_ f3_; have f4_ := f1_.symm; have f5_ := f3_.symm; clear f1_ f2_ f3_; subst f4_; subst f5_))
    refine hK.out _ _ ⟨cy_ BK582 0, cy_ BK582 1⟩ (fun hHeld => ?_)
    clear hK K
    refine nn_ 29 ?_
    refine pu_ 5 32 HT_ ?_
    refine one_ (i := 6) (N := some 9) #[true, true, true, true, true, true, true, false] rfl rfl (one_of HT_.out (by kernel_rfl)) (by decide) (fun K hK => ?_)
    refine box_step ?hg (N := 9) ?hd (cs := #[.slice none 0 0, .int .i64 0]) (t := 24) ?hr ?_; (case hd => rfl); (case hg => rfl); (case hr => first | (go_simp; done) | (go_simp; rfl))
    intro gb589 hg w21 hbox hb
    replace HO588 := Aside0.mk (Kd.R_below (rk_ HO588) hb)
    have BK589 := Aside0.mk (hbox)
    have GW589 := gw_ hg HB
    have GE589 := gw_ hg HB
    replace HB := sb_ HB hb
    have NB582_589 := nl_ hg BK582
    have NB589_582 := ng_ hg BK582
    replace BK582 := kb_ BK582 hb
    have NB583_589 := nl_ hg BK583
    have NB589_583 := ng_ hg BK583
    replace BK583 := kb_ BK583 hb
    clear hb hbox hg
    refine hK.out _ _ ⟨cy_ BK582 0, cy_ BK582 1⟩ (fun hHeld => ?_)
    clear hK K
    refine nn_ 9 ?_
    exact norm_ (by simp only [putAll, Act.put, List.setIfInBounds_toArray, List.set_cons_zero, List.set_cons_succ]) (hCont (.slice Ao20 t586.length co20, gb589) _ ⟨hHeld, (rk_ HO588), (pk_ BK582), (pk_ BK583), (pk_ BK589), GW589.out, GE589.out, NB582_589.out, NB589_582.out, NB583_589.out, NB589_583.out, (pb_ HB)⟩)
   skip
   refine box_step ?hg (N := 9) ?hd (cs := #[.slice none 0 0, .int .i64 0]) (t := 24) ?hr ?_; (case hd => rfl); (case hg => rfl); (case hr => first | (go_simp; done) | (go_simp; rfl))
   intro gb589 hg w19 hbox hb
   have BK589 := Aside0.mk (hbox)
   have GW589 := gw_ hg HB
   have GE589 := gw_ hg HB
   replace HB := sb_ HB hb
   have NB582_589 := nl_ hg BK582
   have NB589_582 := ng_ hg BK582
   replace BK582 := kb_ BK582 hb
   have NB583_589 := nl_ hg BK583
   have NB589_583 := ng_ hg BK583
   replace BK583 := kb_ BK583 hb
   clear hb hbox hg
   refine hK.out _ _ ⟨cy_ BK582 0, cy_ BK582 1⟩ (fun hHeld => ?_)
   clear hK K
   refine nn_ 9 ?_
   refine one_ (i := 2) (N := some 29) #[true, true, true, true, true, false, true, false] rfl rfl (one_of HT_.out (by kernel_rfl)) (by decide) (fun K hK => ?_)
   refine goes_ Try.func38 (by kernel_rfl) rfl #[.slice A0_0 l0_0.length c0_0] (by rfl) rfl rfl (by (try simp only [List.map_toArray, List.map_cons, List.map_nil]); first | done | rfl | (simp only [List.length_drop, List.length_take]; rfl)) ?_
   with_reducible refine (api_Segment_38.calls _ _ l0_0 t586 _ ?side1 ?side2 A12.out).mono ?_
   (case side1 => exact pc_ (Kd.C_below HR0_0.out HB.out))
   (case side2 => exact HC0_0.out)
   rintro e w20 ⟨v587, rfl, ho0, hb⟩
   refine ⟨_, rfl, ?_⟩
   have HO588 := Aside0.mk (Kd.R_lower ho0 (below_size (pb_ HB)))
   replace BK582 := kb_ BK582 hb
   replace BK583 := kb_ BK583 hb
   replace BK589 := kb_ BK589 hb
   replace HB := sb_ HB hb
   (try clear hb)
   (try clear hb2)
   (try clear hk)
   (try clear hi)
   (try clear ho0)
   obtain ⟨Ao21, co21, eo21⟩ := Kd.R_slice HO588.out
   (first | subst eo21 | (injection eo21 with f1_ f2_ f3_; have f4_ := f1_.symm; have f5_ := f3_.symm; clear f1_ f2_ f3_; subst f4_; subst f5_))
   refine hK.out _ _ ⟨cy_ BK582 0, cy_ BK582 1⟩ (fun hHeld => ?_)
   clear hK K
   refine nn_ 29 ?_
   refine pu_ 5 32 HT_ ?_
   exact norm_ (by simp only [putAll, Act.put, List.setIfInBounds_toArray, List.set_cons_zero, List.set_cons_succ]) (hCont (.slice Ao21 t586.length co21, gb589) _ ⟨hHeld, (rk_ HO588), (pk_ BK582), (pk_ BK583), (pk_ BK589), GW589.out, GE589.out, NB582_589.out, NB589_582.out, NB583_589.out, NB589_583.out, (pb_ HB)⟩)
  clear BK582 BK583 HB
  rintro ⟨v587, gb589⟩ w22 ⟨hHeld, HO588, BK582, BK583, BK589, GW589, GE589, NB582_589, NB589_582, NB583_589, NB589_583, HB⟩
  try dsimp only at hHeld HO588 BK582 BK583 BK589 GW589 GE589 NB582_589 NB589_582 NB583_589 NB589_583 HB
  replace HO588 := Aside0.mk HO588
  replace BK582 := Aside0.mk BK582
  replace BK583 := Aside0.mk BK583
  replace BK589 := Aside0.mk BK589
  replace GW589 := Aside0.mk GW589
  replace GE589 := Aside0.mk GE589
  replace NB582_589 := Aside0.mk NB582_589
  replace NB589_582 := Aside0.mk NB589_582
  replace NB583_589 := Aside0.mk NB583_589
  replace NB589_583 := Aside0.mk NB589_583
  replace HB := Aside0.mk HB
  obtain ⟨Ao23, co23, eo23⟩ := Kd.R_slice HO588.out
  (first | subst eo23 | (injection eo23 with f1_ f2_ f3_; have f4_ := f1_.symm; have f5_ := f3_.symm; clear f1_ f2_ f3_; subst f4_; subst f5_))
  refine nm_ ?_
  refine one_ (i := 7) (N := none) #[true, true, true, true, true, true, true, true] rfl rfl (one_of HT_.out (by kernel_rfl)) (by decide) (fun K hK => ?_)
  have hs24 : w22.cell? ⟨gb589, 0, none⟩ = some (.slice none 0 0) := (blk_cell BK589.out 0).trans rfl
  have hfs24 := blk_frozen BK589.out 0
  have hns24_0 := NB582_589.out
  have hns24_1 := NB583_589.out
  have hms24_0 := NB589_582.out
  have hms24_1 := NB589_583.out
  have hs25 : w22.cell? ⟨gb589, 1, none⟩ = some (.int .i64 0) := (blk_cell BK589.out 1).trans rfl
  have hfs25 := blk_frozen BK589.out 1
  have hns25_0 := NB582_589.out
  have hns25_1 := NB583_589.out
  have hms25_0 := NB589_582.out
  have hms25_1 := NB589_583.out
  refine skip_ (w1 := ?_) (by rfl) rfl ?_ ?_
  rotate_left
  ·
   go_simp
   rfl
  refine hK.out _ _ ⟨((cell_far (p := ⟨gb589, _, none⟩) NB582_589.out _).trans (((cell_far (p := ⟨gb589, _, none⟩) NB582_589.out _).trans (hHeld.1)))), ((cell_far (p := ⟨gb589, _, none⟩) NB582_589.out _).trans (((cell_far (p := ⟨gb589, _, none⟩) NB582_589.out _).trans (hHeld.2))))⟩ (fun hHeld => ?_)
  clear hK K
  refine done_ (done_of HT_.out (by kernel_rfl)) ?_
  try go_wp2
  go_loopg [35] k (fun kq v35 w' => ∃ (x35_1 : Int) (x584001_1 : Int) (x590000_1 : List (S56)) (x590001_1 : Int) (u590000 : Value), v35 = .int .i64 x35_1 ∧ Aside0 (segment_Applied.l0 kq l1 l1 (l1.length : Int) x35_1 x590000_1 x590001_1 = some (r1, r2, r3, r4)) ∧ Aside0 (kq ≤ k) ∧ Aside0 (Kd.R k56 56 w' w.heap.size (fun _ => True) u590000 x590000_1) ∧ Aside0 (w'.heap[gb582]? = some (.cells #[(.slice A0_0 l0_0.length c0_0), .int .i64 a0_1] 24 (0, 0))) ∧ Aside0 (w'.heap[gb583]? = some (.cells #[(.slice none 0 0), .int .i64 x584001_1] 24 (0, 0))) ∧ Aside0 (w'.heap[gb589]? = some (.cells #[u590000, .int .i64 x590001_1] 24 (0, 0))) ∧ Aside0 (Below w.heap.size w w'))
  case atStart => exact ⟨(0), (0), (t586), (a0_1), (.slice Ao23 t586.length co23), rl_, H', ⟨Nat.le_refl _⟩, ⟨by (with_reducible repeat (first | apply Kd.R_alloc | apply Kd.R_drewN | apply Kd.R_drew)); exact Kd.R_mono (Kd.R_far (p := ⟨gb589, 1, none⟩) (Kd.R_far (p := ⟨gb589, 0, none⟩) (Kd.R_types HO588.out BK589.out (by decide)) (fun _ hk => hk.2) (.slice Ao23 t586.length co23)) (fun _ hk => hk.2) (.int .i64 a0_1)) (fun _ hk => trivial)⟩, ⟨by (with_reducible repeat (first | refine blk_drewN ?_ _ | refine blk_drew ?_ | refine blk_alloc ?_ _)); refine blk_far ?_ NB582_589.out _; (with_reducible repeat (first | refine blk_drewN ?_ _ | refine blk_drew ?_ | refine blk_alloc ?_ _)); refine blk_far ?_ NB582_589.out _; (with_reducible repeat (first | refine blk_drewN ?_ _ | refine blk_drew ?_ | refine blk_alloc ?_ _)); exact BK582.out⟩, ⟨by (with_reducible repeat (first | refine blk_drewN ?_ _ | refine blk_drew ?_ | refine blk_alloc ?_ _)); refine blk_far ?_ NB583_589.out _; (with_reducible repeat (first | refine blk_drewN ?_ _ | refine blk_drew ?_ | refine blk_alloc ?_ _)); refine blk_far ?_ NB583_589.out _; (with_reducible repeat (first | refine blk_drewN ?_ _ | refine blk_drew ?_ | refine blk_alloc ?_ _)); exact BK583.out⟩, ⟨bq_ BK589⟩, ⟨pb_ HB⟩⟩
  case round =>
   clear H'
   try clear c1
   try clear p2
   try clear c3
   try clear c4
   try clear c4b0
   try clear c4b1
   try clear c5
   try clear c5b0
   try clear c5b1
   try clear c8
   try clear c15
   try clear c18
   try clear hcz11_0
   try clear hcz11_1
   try clear hcz16_0
   try clear hcz16_1
   try clear hcz9_0
   try clear hcz9_1
   try clear hfz11_0
   try clear hfz11_1
   try clear hfz16_0
   try clear hfz16_1
   try clear hfz9_0
   try clear hfz9_1
   obtain ⟨x35_1, x584001_1, x590000_1, x590001_1, u590000, rfl, HA, HK1, HO_590000, BK582, BK583, BK589, HB⟩ := hrel
   cases gk with
   | zero => exact absurd HA.out (by simp [segment_Applied.l0])
   | succ k1 =>
    have H := HA.out
    clear HA
    simp only [segment_Applied.l0] at H
    by_cases c26 : x35_1 < (l1.length : Int)
    ·
     rw [if_pos c26] at H
     have c26b0 : decide (x35_1 < (l1.length : Int)) = true := decide_eq_true c26
     clear c26
     by_cases c27 : 0 ≤ x35_1
     ·
      rw [if_pos c27] at H
      have c27b0 : decide (0 ≤ x35_1) = true := decide_eq_true c27
      clear c27
      by_cases c28 : x35_1 < (l1.length : Int)
      ·
       rw [if_pos c28] at H
       have c28b0 : decide (x35_1 < (l1.length : Int)) = true := decide_eq_true c28
       clear c28
       replace H := Option.bind_eq_some_iff.mp H
       obtain ⟨⟨t592, t595, t596⟩, A290, H⟩ := H
       replace H : (if t596 = 0 then (segment_Applied.l0 k1 l1 l1 (l1.length : Int) (wrap64 (x35_1 + 1)) t592 t595) else (some (([] : List (S56)), 0, x35_1, t596))) = some (r1, r2, r3, r4) := H
       have A29 := Aside0.mk A290
       clear A290
       by_cases c30 : t596 = 0
       ·
        rw [if_pos c30] at H
        have c30b0 : (t596 == 0) = true := beq_iff_eq.mpr c30
        have c30b1 : (t596 != 0) = false := bne_eq_false_iff_eq.mpr c30
        clear c30
        have H' := Aside0.mk H
        clear H
        have p590 : 0 ≤ (x35_1 : Int) := ct_
        have q590 : x35_1 < (l1.length : Int) := ct_
        obtain ⟨ad590, e590, hx590_0, hx590_1, hx590_2, hx590_3, hx590_4⟩ := at_T66 HR1.out x35_1 p590 q590
        cases e590
        replace hx590_0 := pw_cell_below HB.out hx590_0
        replace hx590_1 := pw_cell_below HB.out hx590_1
        replace hx590_2 := pw_cell_below HB.out hx590_2
        replace hx590_3 := pw_cell_below HB.out hx590_3
        replace hx590_4 := pw_cell_below HB.out hx590_4
        replace p590 := eq_true p590
        replace q590 := eq_true q590
        go_wp2_with (first | ((with_reducible refine gate_dst (N := 11) rfl ?_); refine bx_ 11 #[.int .i64 0, .int .i64 0, .int .i64 0, .int .i64 0, .string (⟨#[]⟩ : ByteArray)] 66 ?_; intro gb591 hg w31 hbox hb; replace HO_590000 := Aside0.mk (Kd.R_below (rk_ HO_590000) hb); have BK591 := Aside0.mk (hbox); have GW591 := gw_ hg HB; have GE591 := gw_ hg HB; replace HB := sb_ HB hb; have NB582_591 := nl_ hg BK582; have NB591_582 := ng_ hg BK582; replace BK582 := kb_ BK582 hb; have NB583_591 := nl_ hg BK583; have NB591_583 := ng_ hg BK583; replace BK583 := kb_ BK583 hb; have NB589_591 := nl_ hg BK589; have NB591_589 := ng_ hg BK589; replace BK589 := kb_ BK589 hb; clear hb hbox hg; have hnb32 := NB591_582.out; have hnc32 := NB582_591.out; have hnb33 := NB591_583.out; have hnc33 := NB583_591.out; have hnb34 := NB591_589.out; have hnc34 := NB589_591.out; have hcz35_0 := cz_ BK591 0 (.int .i64 0); have hcz35_1 := cz_ BK591 1 (.int .i64 0); have hcz35_2 := cz_ BK591 2 (.int .i64 0); have hcz35_3 := cz_ BK591 3 (.int .i64 0); have hcz35_4 := cz_ BK591 4 (.string (⟨#[]⟩ : ByteArray)); have hfz35_0 := blk_frozen BK591.out 0; have hfz35_1 := blk_frozen BK591.out 1; have hfz35_2 := blk_frozen BK591.out 2; have hfz35_3 := blk_frozen BK591.out 3; have hfz35_4 := blk_frozen BK591.out 4; have hnb36 := NB589_582.out; have hnc36 := NB582_589.out; have hnb37 := NB589_583.out; have hnc37 := NB583_589.out; have hcz38_0 := cz_ BK589 0 (u590000); have hcz38_1 := cz_ BK589 1 (.int .i64 x590001_1); have hfz38_0 := blk_frozen BK589.out 0; have hfz38_1 := blk_frozen BK589.out 1; obtain ⟨Ao39, co39, eo39⟩ := Kd.R_slice HO_590000.out; subst eo39) | ((with_reducible refine gate_callee (f := 52) rfl ?_); refine gl_ 43 Try.func52 #[.agg #[.slice Ao39 x590000_1.length co39, .int .i64 x590001_1], .agg #[.int .i64 ((rd_T66 l1 x35_1).f0), .int .i64 ((rd_T66 l1 x35_1).f1), .int .i64 ((rd_T66 l1 x35_1).f2), .int .i64 ((rd_T66 l1 x35_1).f3), .string ((rd_T66 l1 x35_1).f4)]] ?_; (with_reducible refine (segment_apply.calls k1 _ _ x590000_1 x590001_1 ((rd_T66 l1 x35_1).f0) ((rd_T66 l1 x35_1).f1) ((rd_T66 l1 x35_1).f2) ((rd_T66 l1 x35_1).f3) ((rd_T66 l1 x35_1).f4) t592 t595 t596 _ ?side1 ?side2 A29.out).mono ?_); (case side1 => refine (Kd.R_reads' (e := 56) (base := w.heap.size) (ok := fun k_ => True) (n := x590000_1.length) (c := co39) ?_).2.2; exact (by (with_reducible repeat (first | apply Kd.R_alloc | apply Kd.R_drewN | apply Kd.R_drew)); exact (Kd.R_mono (Kd.R_far (p := ⟨gb591, 4, none⟩) (Kd.R_far (p := ⟨gb591, 3, none⟩) (Kd.R_far (p := ⟨gb591, 2, none⟩) (Kd.R_far (p := ⟨gb591, 1, none⟩) (Kd.R_far (p := ⟨gb591, 0, none⟩) (Kd.R_types HO_590000.out BK591.out (by decide)) (fun _ hk => hk.2) (.int .i64 ((rd_T66 l1 x35_1).f0))) (fun _ hk => hk.2) (.int .i64 ((rd_T66 l1 x35_1).f1))) (fun _ hk => hk.2) (.int .i64 ((rd_T66 l1 x35_1).f2))) (fun _ hk => hk.2) (.int .i64 ((rd_T66 l1 x35_1).f3))) (fun _ hk => hk.2) (.string ((rd_T66 l1 x35_1).f4))) (fun _ h_ => h_.1)))); (case side2 => exact (Kd.R_reads' HO_590000.out).2.1); rintro e w40 ⟨v593, rfl, ho0, hb⟩; refine ⟨_, rfl, ?_⟩; have HO594 := Aside0.mk (Kd.R_lower (Kd.R_new' ho0 (Kd.R_lt (by (with_reducible repeat (first | apply Kd.R_alloc | apply Kd.R_drewN | apply Kd.R_drew)); exact (Kd.R_mono (Kd.R_far (p := ⟨gb591, 4, none⟩) (Kd.R_far (p := ⟨gb591, 3, none⟩) (Kd.R_far (p := ⟨gb591, 2, none⟩) (Kd.R_far (p := ⟨gb591, 1, none⟩) (Kd.R_far (p := ⟨gb591, 0, none⟩) (Kd.R_types HO_590000.out BK591.out (by decide)) (fun _ hk => hk.2) (.int .i64 ((rd_T66 l1 x35_1).f0))) (fun _ hk => hk.2) (.int .i64 ((rd_T66 l1 x35_1).f1))) (fun _ hk => hk.2) (.int .i64 ((rd_T66 l1 x35_1).f2))) (fun _ hk => hk.2) (.int .i64 ((rd_T66 l1 x35_1).f3))) (fun _ hk => hk.2) (.string ((rd_T66 l1 x35_1).f4))) (fun _ h_ => h_.1))))) (below_size (pb_ HB))); replace HO_590000 := Aside0.mk (Kd.R_elder' (by (with_reducible repeat (first | apply Kd.R_alloc | apply Kd.R_drewN | apply Kd.R_drew)); exact (Kd.R_mono (Kd.R_far (p := ⟨gb591, 4, none⟩) (Kd.R_far (p := ⟨gb591, 3, none⟩) (Kd.R_far (p := ⟨gb591, 2, none⟩) (Kd.R_far (p := ⟨gb591, 1, none⟩) (Kd.R_far (p := ⟨gb591, 0, none⟩) (Kd.R_types HO_590000.out BK591.out (by decide)) (fun _ hk => hk.2) (.int .i64 ((rd_T66 l1 x35_1).f0))) (fun _ hk => hk.2) (.int .i64 ((rd_T66 l1 x35_1).f1))) (fun _ hk => hk.2) (.int .i64 ((rd_T66 l1 x35_1).f2))) (fun _ hk => hk.2) (.int .i64 ((rd_T66 l1 x35_1).f3))) (fun _ hk => hk.2) (.string ((rd_T66 l1 x35_1).f4))) (fun _ h_ => h_.1))) (Kd.R_base ho0) hb); replace BK582 := Aside0.mk (blk_below (g := gb582) (o := .cells #[.slice A0_0 l0_0.length c0_0, .int .i64 a0_1] 24 (0, 0)) (by (with_reducible repeat (first | refine blk_drewN ?_ _ | refine blk_drew ?_ | refine blk_alloc ?_ _)); refine blk_far ?_ NB582_591.out _; (with_reducible repeat (first | refine blk_drewN ?_ _ | refine blk_drew ?_ | refine blk_alloc ?_ _)); refine blk_far ?_ NB582_591.out _; (with_reducible repeat (first | refine blk_drewN ?_ _ | refine blk_drew ?_ | refine blk_alloc ?_ _)); refine blk_far ?_ NB582_591.out _; (with_reducible repeat (first | refine blk_drewN ?_ _ | refine blk_drew ?_ | refine blk_alloc ?_ _)); refine blk_far ?_ NB582_591.out _; (with_reducible repeat (first | refine blk_drewN ?_ _ | refine blk_drew ?_ | refine blk_alloc ?_ _)); refine blk_far ?_ NB582_591.out _; (with_reducible repeat (first | refine blk_drewN ?_ _ | refine blk_drew ?_ | refine blk_alloc ?_ _)); exact BK582.out) hb); replace BK583 := Aside0.mk (blk_below (g := gb583) (o := .cells #[.slice none 0 0, .int .i64 x584001_1] 24 (0, 0)) (by (with_reducible repeat (first | refine blk_drewN ?_ _ | refine blk_drew ?_ | refine blk_alloc ?_ _)); refine blk_far ?_ NB583_591.out _; (with_reducible repeat (first | refine blk_drewN ?_ _ | refine blk_drew ?_ | refine blk_alloc ?_ _)); refine blk_far ?_ NB583_591.out _; (with_reducible repeat (first | refine blk_drewN ?_ _ | refine blk_drew ?_ | refine blk_alloc ?_ _)); refine blk_far ?_ NB583_591.out _; (with_reducible repeat (first | refine blk_drewN ?_ _ | refine blk_drew ?_ | refine blk_alloc ?_ _)); refine blk_far ?_ NB583_591.out _; (with_reducible repeat (first | refine blk_drewN ?_ _ | refine blk_drew ?_ | refine blk_alloc ?_ _)); refine blk_far ?_ NB583_591.out _; (with_reducible repeat (first | refine blk_drewN ?_ _ | refine blk_drew ?_ | refine blk_alloc ?_ _)); exact BK583.out) hb); replace BK589 := Aside0.mk (blk_below (g := gb589) (o := .cells #[.slice Ao39 x590000_1.length co39, .int .i64 x590001_1] 24 (0, 0)) (by (with_reducible repeat (first | refine blk_drewN ?_ _ | refine blk_drew ?_ | refine blk_alloc ?_ _)); refine blk_far ?_ NB589_591.out _; (with_reducible repeat (first | refine blk_drewN ?_ _ | refine blk_drew ?_ | refine blk_alloc ?_ _)); refine blk_far ?_ NB589_591.out _; (with_reducible repeat (first | refine blk_drewN ?_ _ | refine blk_drew ?_ | refine blk_alloc ?_ _)); refine blk_far ?_ NB589_591.out _; (with_reducible repeat (first | refine blk_drewN ?_ _ | refine blk_drew ?_ | refine blk_alloc ?_ _)); refine blk_far ?_ NB589_591.out _; (with_reducible repeat (first | refine blk_drewN ?_ _ | refine blk_drew ?_ | refine blk_alloc ?_ _)); refine blk_far ?_ NB589_591.out _; (with_reducible repeat (first | refine blk_drewN ?_ _ | refine blk_drew ?_ | refine blk_alloc ?_ _)); exact BK589.out) hb); replace BK591 := Aside0.mk (blk_below (g := gb591) (o := .cells #[.int .i64 ((rd_T66 l1 x35_1).f0), .int .i64 ((rd_T66 l1 x35_1).f1), .int .i64 ((rd_T66 l1 x35_1).f2), .int .i64 ((rd_T66 l1 x35_1).f3), .string ((rd_T66 l1 x35_1).f4)] 66 (0, 0)) (bq_ BK591) hb); replace HB := sb_ HB hb; (try clear hb); (try clear hb2); (try clear hk); (try clear hi); (try clear ho0)) | ((with_reducible refine gate_dst (N := 12) rfl ?_); refine bx_ 12 #[.slice none 0 0, .int .i64 0] 24 ?_; intro gb597 hg w41 hbox hb; replace HO_590000 := Aside0.mk (Kd.R_below (rk_ HO_590000) hb); replace HO594 := Aside0.mk (Kd.R_below (rk_ HO594) hb); have BK597 := Aside0.mk (hbox); have GW597 := gw_ hg HB; have GE597 := gw_ hg HB; replace HB := sb_ HB hb; have NB582_597 := nl_ hg BK582; have NB597_582 := ng_ hg BK582; replace BK582 := kb_ BK582 hb; have NB583_597 := nl_ hg BK583; have NB597_583 := ng_ hg BK583; replace BK583 := kb_ BK583 hb; have NB589_597 := nl_ hg BK589; have NB597_589 := ng_ hg BK589; replace BK589 := kb_ BK589 hb; have NB591_597 := nl_ hg BK591; have NB597_591 := ng_ hg BK591; replace BK591 := kb_ BK591 hb; clear hb hbox hg; obtain ⟨Ao42, co42, eo42⟩ := Kd.R_slice HO594.out; subst eo42; have hnb43 := NB597_582.out; have hnc43 := NB582_597.out; have hnb44 := NB597_583.out; have hnc44 := NB583_597.out; have hnb45 := NB597_589.out; have hnc45 := NB589_597.out; have hnb46 := NB597_591.out; have hnc46 := NB591_597.out; have hcz47_0 := cz_ BK597 0 (.slice none 0 0); have hcz47_1 := cz_ BK597 1 (.int .i64 0); have hfz47_0 := blk_frozen BK597.out 0; have hfz47_1 := blk_frozen BK597.out 1; have hcz48_0 := cz_ BK589 0 (.slice Ao39 x590000_1.length co39); have hcz48_1 := cz_ BK589 1 (.int .i64 x590001_1); have hfz48_0 := blk_frozen BK589.out 0; have hfz48_1 := blk_frozen BK589.out 1))
        go_roundg k1
        case measure => have := HK1.out; omega
        case rel => exact ⟨(wrap64 (x35_1 + 1)), (x584001_1), (t592), (t595), (.slice Ao42 t592.length co42), rl_, H', ⟨by have := HK1.out; omega⟩, ⟨by (with_reducible repeat (first | apply Kd.R_alloc | apply Kd.R_drewN | apply Kd.R_drew)); exact Kd.R_mono (Kd.R_far (p := ⟨gb589, 1, none⟩) (Kd.R_far (p := ⟨gb589, 0, none⟩) (Kd.R_far (p := ⟨gb597, 1, none⟩) (Kd.R_far (p := ⟨gb597, 0, none⟩) (Kd.R_types (Kd.R_types HO594.out BK597.out (by decide)) BK589.out (by decide)) (fun _ hk => hk.1.2) (.slice Ao42 t592.length co42)) (fun _ hk => hk.1.2) (.int .i64 t595)) (fun _ hk => hk.2) (.slice Ao42 t592.length co42)) (fun _ hk => hk.2) (.int .i64 t595)) (fun _ hk => trivial)⟩, ⟨by (with_reducible repeat (first | refine blk_drewN ?_ _ | refine blk_drew ?_ | refine blk_alloc ?_ _)); refine blk_far ?_ NB582_589.out _; (with_reducible repeat (first | refine blk_drewN ?_ _ | refine blk_drew ?_ | refine blk_alloc ?_ _)); refine blk_far ?_ NB582_589.out _; (with_reducible repeat (first | refine blk_drewN ?_ _ | refine blk_drew ?_ | refine blk_alloc ?_ _)); refine blk_far ?_ NB582_597.out _; (with_reducible repeat (first | refine blk_drewN ?_ _ | refine blk_drew ?_ | refine blk_alloc ?_ _)); refine blk_far ?_ NB582_597.out _; (with_reducible repeat (first | refine blk_drewN ?_ _ | refine blk_drew ?_ | refine blk_alloc ?_ _)); exact BK582.out⟩, ⟨by (with_reducible repeat (first | refine blk_drewN ?_ _ | refine blk_drew ?_ | refine blk_alloc ?_ _)); refine blk_far ?_ NB583_589.out _; (with_reducible repeat (first | refine blk_drewN ?_ _ | refine blk_drew ?_ | refine blk_alloc ?_ _)); refine blk_far ?_ NB583_589.out _; (with_reducible repeat (first | refine blk_drewN ?_ _ | refine blk_drew ?_ | refine blk_alloc ?_ _)); refine blk_far ?_ NB583_597.out _; (with_reducible repeat (first | refine blk_drewN ?_ _ | refine blk_drew ?_ | refine blk_alloc ?_ _)); refine blk_far ?_ NB583_597.out _; (with_reducible repeat (first | refine blk_drewN ?_ _ | refine blk_drew ?_ | refine blk_alloc ?_ _)); exact BK583.out⟩, ⟨bq_ BK589⟩, ⟨pb_ HB⟩⟩
       rw [if_neg c30] at H
       have c30b0 : (t596 == 0) = false := beq_eq_false_iff_ne.mpr c30
       have c30b1 : (t596 != 0) = true := bne_iff_ne.mpr c30
       simp only [Option.some.injEq, Prod.mk.injEq] at H
       obtain ⟨rfl, rfl, rfl, rfl⟩ := H
       have p590 : 0 ≤ (x35_1 : Int) := ct_
       have q590 : x35_1 < (l1.length : Int) := ct_
       obtain ⟨ad590, e590, hx590_0, hx590_1, hx590_2, hx590_3, hx590_4⟩ := at_T66 HR1.out x35_1 p590 q590
       cases e590
       replace hx590_0 := pw_cell_below HB.out hx590_0
       replace hx590_1 := pw_cell_below HB.out hx590_1
       replace hx590_2 := pw_cell_below HB.out hx590_2
       replace hx590_3 := pw_cell_below HB.out hx590_3
       replace hx590_4 := pw_cell_below HB.out hx590_4
       replace p590 := eq_true p590
       replace q590 := eq_true q590
       go_wp2_with (first | ((with_reducible refine gate_dst (N := 11) rfl ?_); refine bx_ 11 #[.int .i64 0, .int .i64 0, .int .i64 0, .int .i64 0, .string (⟨#[]⟩ : ByteArray)] 66 ?_; intro gb591 hg w49 hbox hb; replace HO_590000 := Aside0.mk (Kd.R_below (rk_ HO_590000) hb); have BK591 := Aside0.mk (hbox); have GW591 := gw_ hg HB; have GE591 := gw_ hg HB; replace HB := sb_ HB hb; have NB582_591 := nl_ hg BK582; have NB591_582 := ng_ hg BK582; replace BK582 := kb_ BK582 hb; have NB583_591 := nl_ hg BK583; have NB591_583 := ng_ hg BK583; replace BK583 := kb_ BK583 hb; have NB589_591 := nl_ hg BK589; have NB591_589 := ng_ hg BK589; replace BK589 := kb_ BK589 hb; clear hb hbox hg; have hnb50 := NB591_582.out; have hnc50 := NB582_591.out; have hnb51 := NB591_583.out; have hnc51 := NB583_591.out; have hnb52 := NB591_589.out; have hnc52 := NB589_591.out; have hcz53_0 := cz_ BK591 0 (.int .i64 0); have hcz53_1 := cz_ BK591 1 (.int .i64 0); have hcz53_2 := cz_ BK591 2 (.int .i64 0); have hcz53_3 := cz_ BK591 3 (.int .i64 0); have hcz53_4 := cz_ BK591 4 (.string (⟨#[]⟩ : ByteArray)); have hfz53_0 := blk_frozen BK591.out 0; have hfz53_1 := blk_frozen BK591.out 1; have hfz53_2 := blk_frozen BK591.out 2; have hfz53_3 := blk_frozen BK591.out 3; have hfz53_4 := blk_frozen BK591.out 4; have hnb54 := NB589_582.out; have hnc54 := NB582_589.out; have hnb55 := NB589_583.out; have hnc55 := NB583_589.out; have hcz56_0 := cz_ BK589 0 (u590000); have hcz56_1 := cz_ BK589 1 (.int .i64 x590001_1); have hfz56_0 := blk_frozen BK589.out 0; have hfz56_1 := blk_frozen BK589.out 1; obtain ⟨Ao57, co57, eo57⟩ := Kd.R_slice HO_590000.out; subst eo57) | ((with_reducible refine gate_callee (f := 52) rfl ?_); refine gl_ 43 Try.func52 #[.agg #[.slice Ao57 x590000_1.length co57, .int .i64 x590001_1], .agg #[.int .i64 ((rd_T66 l1 x35_1).f0), .int .i64 ((rd_T66 l1 x35_1).f1), .int .i64 ((rd_T66 l1 x35_1).f2), .int .i64 ((rd_T66 l1 x35_1).f3), .string ((rd_T66 l1 x35_1).f4)]] ?_; (with_reducible refine (segment_apply.calls k1 _ _ x590000_1 x590001_1 ((rd_T66 l1 x35_1).f0) ((rd_T66 l1 x35_1).f1) ((rd_T66 l1 x35_1).f2) ((rd_T66 l1 x35_1).f3) ((rd_T66 l1 x35_1).f4) t592 t595 t596 _ ?side1 ?side2 A29.out).mono ?_); (case side1 => refine (Kd.R_reads' (e := 56) (base := w.heap.size) (ok := fun k_ => True) (n := x590000_1.length) (c := co57) ?_).2.2; exact (by (with_reducible repeat (first | apply Kd.R_alloc | apply Kd.R_drewN | apply Kd.R_drew)); exact (Kd.R_mono (Kd.R_far (p := ⟨gb591, 4, none⟩) (Kd.R_far (p := ⟨gb591, 3, none⟩) (Kd.R_far (p := ⟨gb591, 2, none⟩) (Kd.R_far (p := ⟨gb591, 1, none⟩) (Kd.R_far (p := ⟨gb591, 0, none⟩) (Kd.R_types HO_590000.out BK591.out (by decide)) (fun _ hk => hk.2) (.int .i64 ((rd_T66 l1 x35_1).f0))) (fun _ hk => hk.2) (.int .i64 ((rd_T66 l1 x35_1).f1))) (fun _ hk => hk.2) (.int .i64 ((rd_T66 l1 x35_1).f2))) (fun _ hk => hk.2) (.int .i64 ((rd_T66 l1 x35_1).f3))) (fun _ hk => hk.2) (.string ((rd_T66 l1 x35_1).f4))) (fun _ h_ => h_.1)))); (case side2 => exact (Kd.R_reads' HO_590000.out).2.1); rintro e w58 ⟨v593, rfl, ho0, hb⟩; refine ⟨_, rfl, ?_⟩; have HO594 := Aside0.mk (Kd.R_lower (Kd.R_new' ho0 (Kd.R_lt (by (with_reducible repeat (first | apply Kd.R_alloc | apply Kd.R_drewN | apply Kd.R_drew)); exact (Kd.R_mono (Kd.R_far (p := ⟨gb591, 4, none⟩) (Kd.R_far (p := ⟨gb591, 3, none⟩) (Kd.R_far (p := ⟨gb591, 2, none⟩) (Kd.R_far (p := ⟨gb591, 1, none⟩) (Kd.R_far (p := ⟨gb591, 0, none⟩) (Kd.R_types HO_590000.out BK591.out (by decide)) (fun _ hk => hk.2) (.int .i64 ((rd_T66 l1 x35_1).f0))) (fun _ hk => hk.2) (.int .i64 ((rd_T66 l1 x35_1).f1))) (fun _ hk => hk.2) (.int .i64 ((rd_T66 l1 x35_1).f2))) (fun _ hk => hk.2) (.int .i64 ((rd_T66 l1 x35_1).f3))) (fun _ hk => hk.2) (.string ((rd_T66 l1 x35_1).f4))) (fun _ h_ => h_.1))))) (below_size (pb_ HB))); replace HO_590000 := Aside0.mk (Kd.R_elder' (by (with_reducible repeat (first | apply Kd.R_alloc | apply Kd.R_drewN | apply Kd.R_drew)); exact (Kd.R_mono (Kd.R_far (p := ⟨gb591, 4, none⟩) (Kd.R_far (p := ⟨gb591, 3, none⟩) (Kd.R_far (p := ⟨gb591, 2, none⟩) (Kd.R_far (p := ⟨gb591, 1, none⟩) (Kd.R_far (p := ⟨gb591, 0, none⟩) (Kd.R_types HO_590000.out BK591.out (by decide)) (fun _ hk => hk.2) (.int .i64 ((rd_T66 l1 x35_1).f0))) (fun _ hk => hk.2) (.int .i64 ((rd_T66 l1 x35_1).f1))) (fun _ hk => hk.2) (.int .i64 ((rd_T66 l1 x35_1).f2))) (fun _ hk => hk.2) (.int .i64 ((rd_T66 l1 x35_1).f3))) (fun _ hk => hk.2) (.string ((rd_T66 l1 x35_1).f4))) (fun _ h_ => h_.1))) (Kd.R_base ho0) hb); replace BK582 := Aside0.mk (blk_below (g := gb582) (o := .cells #[.slice A0_0 l0_0.length c0_0, .int .i64 a0_1] 24 (0, 0)) (by (with_reducible repeat (first | refine blk_drewN ?_ _ | refine blk_drew ?_ | refine blk_alloc ?_ _)); refine blk_far ?_ NB582_591.out _; (with_reducible repeat (first | refine blk_drewN ?_ _ | refine blk_drew ?_ | refine blk_alloc ?_ _)); refine blk_far ?_ NB582_591.out _; (with_reducible repeat (first | refine blk_drewN ?_ _ | refine blk_drew ?_ | refine blk_alloc ?_ _)); refine blk_far ?_ NB582_591.out _; (with_reducible repeat (first | refine blk_drewN ?_ _ | refine blk_drew ?_ | refine blk_alloc ?_ _)); refine blk_far ?_ NB582_591.out _; (with_reducible repeat (first | refine blk_drewN ?_ _ | refine blk_drew ?_ | refine blk_alloc ?_ _)); refine blk_far ?_ NB582_591.out _; (with_reducible repeat (first | refine blk_drewN ?_ _ | refine blk_drew ?_ | refine blk_alloc ?_ _)); exact BK582.out) hb); replace BK583 := Aside0.mk (blk_below (g := gb583) (o := .cells #[.slice none 0 0, .int .i64 x584001_1] 24 (0, 0)) (by (with_reducible repeat (first | refine blk_drewN ?_ _ | refine blk_drew ?_ | refine blk_alloc ?_ _)); refine blk_far ?_ NB583_591.out _; (with_reducible repeat (first | refine blk_drewN ?_ _ | refine blk_drew ?_ | refine blk_alloc ?_ _)); refine blk_far ?_ NB583_591.out _; (with_reducible repeat (first | refine blk_drewN ?_ _ | refine blk_drew ?_ | refine blk_alloc ?_ _)); refine blk_far ?_ NB583_591.out _; (with_reducible repeat (first | refine blk_drewN ?_ _ | refine blk_drew ?_ | refine blk_alloc ?_ _)); refine blk_far ?_ NB583_591.out _; (with_reducible repeat (first | refine blk_drewN ?_ _ | refine blk_drew ?_ | refine blk_alloc ?_ _)); refine blk_far ?_ NB583_591.out _; (with_reducible repeat (first | refine blk_drewN ?_ _ | refine blk_drew ?_ | refine blk_alloc ?_ _)); exact BK583.out) hb); replace BK589 := Aside0.mk (blk_below (g := gb589) (o := .cells #[.slice Ao57 x590000_1.length co57, .int .i64 x590001_1] 24 (0, 0)) (by (with_reducible repeat (first | refine blk_drewN ?_ _ | refine blk_drew ?_ | refine blk_alloc ?_ _)); refine blk_far ?_ NB589_591.out _; (with_reducible repeat (first | refine blk_drewN ?_ _ | refine blk_drew ?_ | refine blk_alloc ?_ _)); refine blk_far ?_ NB589_591.out _; (with_reducible repeat (first | refine blk_drewN ?_ _ | refine blk_drew ?_ | refine blk_alloc ?_ _)); refine blk_far ?_ NB589_591.out _; (with_reducible repeat (first | refine blk_drewN ?_ _ | refine blk_drew ?_ | refine blk_alloc ?_ _)); refine blk_far ?_ NB589_591.out _; (with_reducible repeat (first | refine blk_drewN ?_ _ | refine blk_drew ?_ | refine blk_alloc ?_ _)); refine blk_far ?_ NB589_591.out _; (with_reducible repeat (first | refine blk_drewN ?_ _ | refine blk_drew ?_ | refine blk_alloc ?_ _)); exact BK589.out) hb); replace BK591 := Aside0.mk (blk_below (g := gb591) (o := .cells #[.int .i64 ((rd_T66 l1 x35_1).f0), .int .i64 ((rd_T66 l1 x35_1).f1), .int .i64 ((rd_T66 l1 x35_1).f2), .int .i64 ((rd_T66 l1 x35_1).f3), .string ((rd_T66 l1 x35_1).f4)] 66 (0, 0)) (bq_ BK591) hb); replace HB := sb_ HB hb; (try clear hb); (try clear hb2); (try clear hk); (try clear hi); (try clear ho0)) | ((with_reducible refine gate_dst (N := 12) rfl ?_); refine bx_ 12 #[.slice none 0 0, .int .i64 0] 24 ?_; intro gb597 hg w59 hbox hb; replace HO_590000 := Aside0.mk (Kd.R_below (rk_ HO_590000) hb); replace HO594 := Aside0.mk (Kd.R_below (rk_ HO594) hb); have BK597 := Aside0.mk (hbox); have GW597 := gw_ hg HB; have GE597 := gw_ hg HB; replace HB := sb_ HB hb; have NB582_597 := nl_ hg BK582; have NB597_582 := ng_ hg BK582; replace BK582 := kb_ BK582 hb; have NB583_597 := nl_ hg BK583; have NB597_583 := ng_ hg BK583; replace BK583 := kb_ BK583 hb; have NB589_597 := nl_ hg BK589; have NB597_589 := ng_ hg BK589; replace BK589 := kb_ BK589 hb; have NB591_597 := nl_ hg BK591; have NB597_591 := ng_ hg BK591; replace BK591 := kb_ BK591 hb; clear hb hbox hg; obtain ⟨Ao60, co60, eo60⟩ := Kd.R_slice HO594.out; subst eo60; have hnb61 := NB597_582.out; have hnc61 := NB582_597.out; have hnb62 := NB597_583.out; have hnc62 := NB583_597.out; have hnb63 := NB597_589.out; have hnc63 := NB589_597.out; have hnb64 := NB597_591.out; have hnc64 := NB591_597.out; have hcz65_0 := cz_ BK597 0 (.slice none 0 0); have hcz65_1 := cz_ BK597 1 (.int .i64 0); have hfz65_0 := blk_frozen BK597.out 0; have hfz65_1 := blk_frozen BK597.out 1; have hnb66 := NB583_582.out; have hnc66 := NB582_583.out; have hcz67_0 := cz_ BK583 0 (.slice none 0 0); have hcz67_1 := cz_ BK583 1 (.int .i64 x584001_1); have hfz67_0 := blk_frozen BK583.out 0; have hfz67_1 := blk_frozen BK583.out 1))
       refine bodyPost_ret (results_ctt rfl _ _ gb583 24 #[.slice none 0 0, .int .i64 0] (0, 0) _ rfl (bq_ BK583) Try.underlying24 rfl (by kernel_rfl)) rfl ?_
       exact ⟨_, er_, by first | exact Kd.R_nil _ _ _ _ _ | exact Kd.N_nil _ _ _ _ _ | exact Kd.V_nil _ _ _ _ _ | exact Kd.Q_nil _ _ _ _ _ | exact Kd.S_nil _ _ _ _ _, pb_ HB⟩
      rw [if_neg c28] at H
      exact absurd H (by simp)
     rw [if_neg c27] at H
     exact absurd H (by simp)
    rw [if_neg c26] at H
    have c26b0 : decide (x35_1 < (l1.length : Int)) = false := decide_eq_false c26
    clear c26
    simp only [Option.some.injEq, Prod.mk.injEq] at H
    obtain ⟨rfl, rfl, rfl, rfl⟩ := H
    have hnb68 := NB589_582.out
    have hnc68 := NB582_589.out
    have hnb69 := NB589_583.out
    have hnc69 := NB583_589.out
    have hcz70_0 := cz_ BK589 0 (u590000)
    have hcz70_1 := cz_ BK589 1 (.int .i64 x590001_1)
    have hfz70_0 := blk_frozen BK589.out 0
    have hfz70_1 := blk_frozen BK589.out 1
    obtain ⟨Ao71, co71, eo71⟩ := Kd.R_slice HO_590000.out
    subst eo71
    have hnb72 := NB583_582.out
    have hnc72 := NB582_583.out
    have hcz73_0 := cz_ BK583 0 (.slice none 0 0)
    have hcz73_1 := cz_ BK583 1 (.int .i64 x584001_1)
    have hfz73_0 := blk_frozen BK583.out 0
    have hfz73_1 := blk_frozen BK583.out 1
    go_wp2
    refine bodyPost_ret (results_ctt rfl _ _ gb583 24 #[.slice Ao71 x590000_1.length co71, .int .i64 x590001_1] (0, 0) _ rfl (bq_ BK583) Try.underlying24 rfl (by kernel_rfl)) rfl ?_
    exact ⟨_, er_, by (with_reducible repeat (first | apply Kd.R_alloc | apply Kd.R_drewN | apply Kd.R_drew)); exact Kd.R_mono (Kd.R_far (p := ⟨gb583, 1, none⟩) (Kd.R_far (p := ⟨gb583, 0, none⟩) (Kd.R_types HO_590000.out BK583.out (by decide)) (fun _ hk => hk.2) (.slice Ao71 x590000_1.length co71)) (fun _ hk => hk.2) (.int .i64 x590001_1)) (fun _ hk => trivial), pb_ HB⟩
 rw [if_neg c4] at H
 have c4b0 : (t585 == 0) = false := beq_eq_false_iff_ne.mpr c4
 have c4b1 : (t585 != 0) = true := bne_iff_ne.mpr c4
 simp only [Option.some.injEq, Prod.mk.injEq] at H
 obtain ⟨rfl, rfl, rfl, rfl⟩ := H
 go_enter Try.func32, Try.ntmps32
 go_wp2_with (first | ((with_reducible refine gate_dst (N := 2) rfl ?_); refine bx_ 2 #[.slice A0_0 l0_0.length c0_0, .int .i64 a0_1] 24 ?_; intro gb582 hg w74 hbox hb; have BK582 := Aside0.mk (hbox); have GW582 := gw_ hg HB; have GE582 := gw_ hg HB; replace HB := sb_ HB hb; clear hb hbox hg) | ((with_reducible refine gate_dst (N := 4) rfl ?_); refine bx_ 4 #[.slice none 0 0, .int .i64 0] 24 ?_; intro gb583 hg w75 hbox hb; have BK583 := Aside0.mk (hbox); have GW583 := gw_ hg HB; have GE583 := gw_ hg HB; replace HB := sb_ HB hb; have NB582_583 := nl_ hg BK582; have NB583_582 := ng_ hg BK582; replace BK582 := kb_ BK582 hb; clear hb hbox hg; have hnb76 := NB582_583.out; have hnc76 := NB583_582.out; have hcz77_0 := cz_ BK582 0 (.slice A0_0 l0_0.length c0_0); have hcz77_1 := cz_ BK582 1 (.int .i64 a0_1); have hfz77_0 := blk_frozen BK582.out 0; have hfz77_1 := blk_frozen BK582.out 1) | ((with_reducible refine gate_callee (f := 18) rfl ?_); refine gl_ 16 Try.func18 #[.agg #[.slice A0_0 l0_0.length c0_0, .int .i64 a0_1]] ?_; (with_reducible refine (segment_CheckStore.calls k _ _ l0_0 a0_1 t584 t585 _ ?side1 ?side2 A3.out).mono ?_); (case side1 => exact pc_ (Kd.C_below HR0_0.out HB.out)); (case side2 => exact HC0_0.out); rintro e w78 ⟨rfl, hb⟩; refine ⟨_, rfl, ?_⟩; replace BK582 := kb_ BK582 hb; replace BK583 := kb_ BK583 hb; replace HB := sb_ HB hb; (try clear hb); (try clear hb2); (try clear hk); (try clear hi); have hcz79_0 := cz_ BK583 0 (.slice none 0 0); have hcz79_1 := cz_ BK583 1 (.int .i64 0); have hfz79_0 := blk_frozen BK583.out 0; have hfz79_1 := blk_frozen BK583.out 1))
 refine bodyPost_ret (results_ctt rfl _ _ gb583 24 #[.slice none 0 0, .int .i64 0] (0, 0) _ rfl (bq_ BK583) Try.underlying24 rfl (by kernel_rfl)) rfl ?_
 exact ⟨_, er_, by first | exact Kd.R_nil _ _ _ _ _ | exact Kd.N_nil _ _ _ _ _ | exact Kd.V_nil _ _ _ _ _ | exact Kd.Q_nil _ _ _ _ _ | exact Kd.S_nil _ _ _ _ _, pb_ HB⟩
def midrangebase_IndexOf.l0 : Nat → List Int → Int → Int → Option (Int)
  | 0, _, _, _ => none
  | k + 1, x0, x1, x5 => if x5 < (x0.length : Int) then (if 0 ≤ x5 then (if (rd x0 x5) = x1 then (some x5) else (midrangebase_IndexOf.l0 k x0 x1 (wrap64 (x5 + 1)))) else (none)) else (some (-1))
def midrangebase_IndexOf.f (k : Nat) (l0 : List Int) (a1 : Int) : Option (Int) := midrangebase_IndexOf.l0 k l0 a1 0
set_option maxHeartbeats 8000000 in
set_option maxRecDepth 100000 in
theorem midrangebase_IndexOf.calls (k : Nat) (A0 : Option Addr) (c0 : Nat) (l0 : List Int) (a1 : Int) (r : Int) (w : World) (hr0 : Kd.C (Kd.int .i64) w A0 l0.length l0) (hc0 : l0.length ≤ c0) (h : midrangebase_IndexOf.f k l0 a1 = some r) :
  Calls Try.prog 36 #[.slice A0 l0.length c0, .int .i64 a1] w fun e w' => e = .returned (.int .i64 r) ∧ Drawn0 w w' := by
 have HR0 := Aside0.mk hr0
 have HC0 := Aside0.mk hc0
 clear hr0 hc0
 have H : (midrangebase_IndexOf.l0 k l0 a1 0) = some r := h
 clear h
 have H' := Aside0.mk H
 clear H
 go_enter Try.func36, Try.ntmps36
 go_wp2
 go_loopg [5] k (fun kq v5 w' => ∃ (x5_1 : Int), v5 = .int .i64 x5_1 ∧ Aside0 (midrangebase_IndexOf.l0 kq l0 a1 x5_1 = some r) ∧ Aside0 (kq ≤ k) ∧ Drawn0 w w')
 case atStart => exact ⟨(0), rl_, H', ⟨Nat.le_refl _⟩, by repeat (first | exact Drawn0.refl _ | apply Drawn0.step)⟩
 case round =>
  clear H'
  try clear p2
  obtain ⟨x5_1, rfl, HA, HK1, ⟨m1, rfl⟩⟩ := hrel
  cases gk with
  | zero => exact absurd HA.out (by simp [midrangebase_IndexOf.l0])
  | succ k1 =>
   have H := HA.out
   clear HA
   simp only [midrangebase_IndexOf.l0] at H
   by_cases c3 : x5_1 < (l0.length : Int)
   ·
    rw [if_pos c3] at H
    have c3b0 : decide (x5_1 < (l0.length : Int)) = true := decide_eq_true c3
    clear c3
    by_cases c4 : 0 ≤ x5_1
    ·
     rw [if_pos c4] at H
     have c4b0 : decide (0 ≤ x5_1) = true := decide_eq_true c4
     clear c4
     by_cases c5 : (rd l0 x5_1) = a1
     ·
      rw [if_pos c5] at H
      have c5b0 : ((rd l0 x5_1) == a1) = true := beq_iff_eq.mpr c5
      have c5b1 : ((rd l0 x5_1) != a1) = false := bne_eq_false_iff_eq.mpr c5
      clear c5
      obtain rfl := Option.some.inj H
      have p699 : 0 ≤ (x5_1 : Int) := ct_
      have q699 : x5_1 < (l0.length : Int) := ct_
      obtain ⟨ad699, e699, hx699_0⟩ := Kd.at_int HR0.out x5_1 p699 q699
      cases e699
      replace p699 := eq_true p699
      replace q699 := eq_true q699
      go_wp2
      go_ret
      exact ⟨by first | rfl | (simp; done) | (simp [*]; done), by repeat (first | exact Drawn0.refl _ | apply Drawn0.step)⟩
     rw [if_neg c5] at H
     have c5b0 : ((rd l0 x5_1) == a1) = false := beq_eq_false_iff_ne.mpr c5
     have c5b1 : ((rd l0 x5_1) != a1) = true := bne_iff_ne.mpr c5
     have H' := Aside0.mk H
     clear H
     have p699 : 0 ≤ (x5_1 : Int) := ct_
     have q699 : x5_1 < (l0.length : Int) := ct_
     obtain ⟨ad699, e699, hx699_0⟩ := Kd.at_int HR0.out x5_1 p699 q699
     cases e699
     replace p699 := eq_true p699
     replace q699 := eq_true q699
     go_wp2
     go_roundg k1
     case measure => have := HK1.out; omega
     case rel => exact ⟨(wrap64 (x5_1 + 1)), rl_, H', ⟨by have := HK1.out; omega⟩, by repeat (first | exact Drawn0.refl _ | apply Drawn0.step)⟩
    rw [if_neg c4] at H
    exact absurd H (by simp)
   rw [if_neg c3] at H
   have c3b0 : decide (x5_1 < (l0.length : Int)) = false := decide_eq_false c3
   clear c3
   obtain rfl := Option.some.inj H
   go_wp2
   go_ret
   exact ⟨by first | rfl | (simp; done) | (simp [*]; done), by repeat (first | exact Drawn0.refl _ | apply Drawn0.step)⟩
end Go.Proofs.Ytoabahlaicgmjaa.X
end
