-- Texts of this claim joined by merge.py, a program of its author; what this claim does not reach is left out.
import Derived.Test.YtoabahlaicgmjaaMSegmentApplies6
section
namespace Go.Proofs.Ytoabahlaicgmjaa.X
open Go.Proofs.Ytoabahlaicgmjaa.XW Go.Proofs.Ytoabahlaicgmjaa.XS
open Go.RowKit Go.Proofs.YtoabahlaicgmjaaW.PrintWords Go.Proofs.YtoabahlaicgmjaaW.PrintLast Go.Proofs.YtoabahlaicgmjaaW.PrintMore
attribute [local go_sem] max2_int min2_int max_two min_two max_three min_three max_four min_four   -- for this text's walks alone
set_option linter.unusedVariables false
set_option linter.unusedSimpArgs false

/-! ### segment_apply: function 52 -/
def segment_apply.f (k : Nat) (l0_0 : List (S56)) (a0_1 : Int) (a1_0 : Int) (a1_1 : Int) (a1_2 : Int) (a1_3 : Int) (a1_4 : ByteArray) : Option ((List (S56)) × Int × Int) := (segment_form.f a1_0 a1_1 a1_2 a1_3 a1_4).bind fun t554 => (if t554 = 0 then (if a1_0 = 0 then ((segment_Created.f k l0_0 a0_1 a1_3).bind fun bt555 => (some (bt555.1, bt555.2.1, bt555.2.2.2))) else (if a1_0 = 1 then ((segment_Extended.f k l0_0 a0_1 a1_1 a1_3).bind fun bt562 => (some (bt562.1, bt562.2.1, bt562.2.2))) else (if a1_0 = 2 then ((segment_Truncated.f k l0_0 a0_1 a1_1 a1_3).bind fun bt567 => (some (bt567.1, bt567.2.1, bt567.2.2))) else (if a1_0 = 3 then ((segment_Destroyed.f k l0_0 a0_1 a1_1).bind fun bt572 => (some (bt572.1, bt572.2.1, bt572.2.2))) else ((segment_Written.f k l0_0 a0_1 a1_1 a1_2 a1_4).bind fun bt577 => (some (bt577.1, bt577.2.1, bt577.2.2))))))) else (some (([] : List (S56)), 0, t554)))
set_option maxHeartbeats 8000000 in
set_option maxRecDepth 100000 in
theorem segment_apply.calls (k : Nat) (A0_0 : Option Addr) (c0_0 : Nat) (l0_0 : List (S56)) (a0_1 : Int) (a1_0 : Int) (a1_1 : Int) (a1_2 : Int) (a1_3 : Int) (a1_4 : ByteArray) (r1 : List (S56)) (r2 : Int) (r3 : Int) (w : World) (hr0_0 : Kd.C k56 w A0_0 l0_0.length l0_0) (hc0_0 : l0_0.length ≤ c0_0) (h : segment_apply.f k l0_0 a0_1 a1_0 a1_1 a1_2 a1_3 a1_4 = some (r1, r2, r3)) :
    Calls Try.prog 52 #[.agg #[.slice A0_0 l0_0.length c0_0, .int .i64 a0_1], .agg #[.int .i64 a1_0, .int .i64 a1_1, .int .i64 a1_2, .int .i64 a1_3, .string a1_4]] w fun e w' => ∃ v0_ : Value, e = .returned (.tuple #[.agg #[v0_, .int .i64 r2], .int .i64 r3]) ∧ Kd.R k56 56 w' w.heap.size (fun _ => True) v0_ r1 ∧ Below w.heap.size w w' := by
  have hu24 := Try.underlying24
  have hu66 := Try.underlying66
  have hu46 := Try.underlying46
  have HR0_0 := Aside0.mk hr0_0
  have HC0_0 := Aside0.mk hc0_0
  clear hr0_0 hc0_0
  have HB := Aside0.mk (Below.refl w.heap.size w)
  have H : ((segment_form.f a1_0 a1_1 a1_2 a1_3 a1_4).bind fun t554 => (if t554 = 0 then (if a1_0 = 0 then ((segment_Created.f k l0_0 a0_1 a1_3).bind fun bt555 => (some (bt555.1, bt555.2.1, bt555.2.2.2))) else (if a1_0 = 1 then ((segment_Extended.f k l0_0 a0_1 a1_1 a1_3).bind fun bt562 => (some (bt562.1, bt562.2.1, bt562.2.2))) else (if a1_0 = 2 then ((segment_Truncated.f k l0_0 a0_1 a1_1 a1_3).bind fun bt567 => (some (bt567.1, bt567.2.1, bt567.2.2))) else (if a1_0 = 3 then ((segment_Destroyed.f k l0_0 a0_1 a1_1).bind fun bt572 => (some (bt572.1, bt572.2.1, bt572.2.2))) else ((segment_Written.f k l0_0 a0_1 a1_1 a1_2 a1_4).bind fun bt577 => (some (bt577.1, bt577.2.1, bt577.2.2))))))) else (some (([] : List (S56)), 0, t554)))) = some (r1, r2, r3) := h
  clear h
  replace H := Option.bind_eq_some_iff.mp H
  obtain ⟨t554, A30, H⟩ := H
  replace H : (if t554 = 0 then (if a1_0 = 0 then ((segment_Created.f k l0_0 a0_1 a1_3).bind fun bt555 => (some (bt555.1, bt555.2.1, bt555.2.2.2))) else (if a1_0 = 1 then ((segment_Extended.f k l0_0 a0_1 a1_1 a1_3).bind fun bt562 => (some (bt562.1, bt562.2.1, bt562.2.2))) else (if a1_0 = 2 then ((segment_Truncated.f k l0_0 a0_1 a1_1 a1_3).bind fun bt567 => (some (bt567.1, bt567.2.1, bt567.2.2))) else (if a1_0 = 3 then ((segment_Destroyed.f k l0_0 a0_1 a1_1).bind fun bt572 => (some (bt572.1, bt572.2.1, bt572.2.2))) else ((segment_Written.f k l0_0 a0_1 a1_1 a1_2 a1_4).bind fun bt577 => (some (bt577.1, bt577.2.1, bt577.2.2))))))) else (some (([] : List (S56)), 0, t554))) = some (r1, r2, r3) := H
  have A3 := Aside0.mk A30
  clear A30
  by_cases c4 : t554 = 0
  · rw [if_pos c4] at H
    have c4b0 : (t554 == 0) = true := beq_iff_eq.mpr c4
    have c4b1 : (t554 != 0) = false := bne_eq_false_iff_eq.mpr c4
    clear c4
    by_cases c5 : a1_0 = 0
    · rw [if_pos c5] at H
      have c5b0 : (a1_0 == 0) = true := beq_iff_eq.mpr c5
      have c5b1 : (a1_0 != 0) = false := bne_eq_false_iff_eq.mpr c5
      clear c5
      replace H := Option.bind_eq_some_iff.mp H
      obtain ⟨⟨t555, t558, t559, t560⟩, A60, H⟩ := H
      replace H : (some (t555, t558, t560)) = some (r1, r2, r3) := H
      have A6 := Aside0.mk A60
      clear A60
      simp only [Option.some.injEq, Prod.mk.injEq] at H
      obtain ⟨rfl, rfl, rfl⟩ := H
      go_enter Try.func52, Try.ntmps52
      go_wp2_with (first | ((with_reducible refine gate_dst (N := 2) rfl ?_); refine box_event ?hg (N := 2) ?hd (cs := #[.slice A0_0 l0_0.length c0_0, .int .i64 a0_1]) (t := 24) ?hr ?_; (case hd => rfl); (case hg => rfl); (case hr => first | (go_simp; done) | (go_simp; rfl)); intro gb551 hg w7 hbox hb; have BK551 := Aside0.mk (hbox); have GW551 := gw_ hg HB; have GE551 := gw_ hg HB; replace HB := sb_ HB hb; clear hb hbox hg) | ((with_reducible refine gate_dst (N := 3) rfl ?_); refine box_event ?hg (N := 3) ?hd (cs := #[.int .i64 a1_0, .int .i64 a1_1, .int .i64 a1_2, .int .i64 a1_3, .string a1_4]) (t := 66) ?hr ?_; (case hd => rfl); (case hg => rfl); (case hr => first | (go_simp; done) | (go_simp; rfl)); intro gb552 hg w8 hbox hb; have BK552 := Aside0.mk (hbox); have GW552 := gw_ hg HB; have GE552 := gw_ hg HB; replace HB := sb_ HB hb; have NB551_552 := nl_ hg BK551; have NB552_551 := ng_ hg BK551; replace BK551 := kb_ BK551 hb; clear hb hbox hg) | ((with_reducible refine gate_dst (N := 4) rfl ?_); refine box_event ?hg (N := 4) ?hd (cs := #[.slice none 0 0, .int .i64 0]) (t := 24) ?hr ?_; (case hd => rfl); (case hg => rfl); (case hr => first | (go_simp; done) | (go_simp; rfl)); intro gb553 hg w9 hbox hb; have BK553 := Aside0.mk (hbox); have GW553 := gw_ hg HB; have GE553 := gw_ hg HB; replace HB := sb_ HB hb; have NB551_553 := nl_ hg BK551; have NB553_551 := ng_ hg BK551; replace BK551 := kb_ BK551 hb; have NB552_553 := nl_ hg BK552; have NB553_552 := ng_ hg BK552; replace BK552 := kb_ BK552 hb; clear hb hbox hg; have hnb10 := NB552_551.out; have hnc10 := NB551_552.out; have hnb11 := NB552_553.out; have hnc11 := NB553_552.out; have hcz12_0 := cz_ BK552 0 (.int .i64 a1_0); have hcz12_1 := cz_ BK552 1 (.int .i64 a1_1); have hcz12_2 := cz_ BK552 2 (.int .i64 a1_2); have hcz12_3 := cz_ BK552 3 (.int .i64 a1_3); have hcz12_4 := cz_ BK552 4 (.string a1_4); have hfz12_0 := blk_frozen BK552.out 0; have hfz12_1 := blk_frozen BK552.out 1; have hfz12_2 := blk_frozen BK552.out 2; have hfz12_3 := blk_frozen BK552.out 3; have hfz12_4 := blk_frozen BK552.out 4) | ((with_reducible refine gate_callee (f := 60) rfl ?_); refine goesL_ (some 11) rfl rfl Try.func60 (by kernel_rfl) rfl #[.agg #[.int .i64 a1_0, .int .i64 a1_1, .int .i64 a1_2, .int .i64 a1_3, .string a1_4]] rfl (by (try simp only [List.map_toArray, List.map_cons, List.map_nil]); first | done | rfl | (simp only [List.length_drop, List.length_take]; rfl)) ?_; (with_reducible refine (segment_form.calls a1_0 a1_1 a1_2 a1_3 a1_4 t554 _ A3.out).mono ?_); rintro e w13 ⟨rfl, hb⟩; refine ⟨_, rfl, ?_⟩; replace BK551 := kb_ BK551 hb; replace BK552 := kb_ BK552 hb; replace BK553 := kb_ BK553 hb; replace HB := sb_ HB hb; (try clear hb); (try clear hb2); (try clear hk); (try clear hi); have hcz14_0 := cz_ BK552 0 (.int .i64 a1_0); have hcz14_1 := cz_ BK552 1 (.int .i64 a1_1); have hcz14_2 := cz_ BK552 2 (.int .i64 a1_2); have hcz14_3 := cz_ BK552 3 (.int .i64 a1_3); have hcz14_4 := cz_ BK552 4 (.string a1_4); have hfz14_0 := blk_frozen BK552.out 0; have hfz14_1 := blk_frozen BK552.out 1; have hfz14_2 := blk_frozen BK552.out 2; have hfz14_3 := blk_frozen BK552.out 3; have hfz14_4 := blk_frozen BK552.out 4; have hnb15 := NB551_553.out; have hnc15 := NB553_551.out; have hcz16_0 := cz_ BK551 0 (.slice A0_0 l0_0.length c0_0); have hcz16_1 := cz_ BK551 1 (.int .i64 a0_1); have hfz16_0 := blk_frozen BK551.out 0; have hfz16_1 := blk_frozen BK551.out 1) | ((with_reducible refine gate_callee (f := 12) rfl ?_); refine goesL_ (some 24) rfl rfl Try.func12 (by kernel_rfl) rfl #[.agg #[.slice A0_0 l0_0.length c0_0, .int .i64 a0_1], .int .i64 a1_3] rfl (by (try simp only [List.map_toArray, List.map_cons, List.map_nil]); first | done | rfl | (simp only [List.length_drop, List.length_take]; rfl)) ?_; (with_reducible refine (segment_Created.calls k _ _ l0_0 a0_1 a1_3 t555 t558 t559 t560 _ ?side1 ?side2 A6.out).mono ?_); (case side1 => exact pc_ (Kd.C_below HR0_0.out HB.out)); (case side2 => exact HC0_0.out); rintro e w17 ⟨v556, rfl, ho0, hb⟩; refine ⟨_, rfl, ?_⟩; have HO557 := Aside0.mk (Kd.R_lower ho0 (below_size (pb_ HB))); replace BK551 := kb_ BK551 hb; replace BK552 := kb_ BK552 hb; replace BK553 := kb_ BK553 hb; replace HB := sb_ HB hb; (try clear hb); (try clear hb2); (try clear hk); (try clear hi); (try clear ho0)) | ((with_reducible refine gate_dst (N := 7) rfl ?_); refine box_event ?hg (N := 7) ?hd (cs := #[.slice none 0 0, .int .i64 0]) (t := 24) ?hr ?_; (case hd => rfl); (case hg => rfl); (case hr => first | (go_simp; done) | (go_simp; rfl)); intro gb561 hg w18 hbox hb; replace HO557 := Aside0.mk (Kd.R_below (by (with_reducible repeat (first | apply Kd.R_alloc | apply Kd.R_drewN | apply Kd.R_drew)); exact HO557.out) hb); have BK561 := Aside0.mk (hbox); have GW561 := gw_ hg HB; have GE561 := gw_ hg HB; replace HB := sb_ HB hb; have NB551_561 := nl_ hg BK551; have NB561_551 := ng_ hg BK551; replace BK551 := kb_ BK551 hb; have NB552_561 := nl_ hg BK552; have NB561_552 := ng_ hg BK552; replace BK552 := kb_ BK552 hb; have NB553_561 := nl_ hg BK553; have NB561_553 := ng_ hg BK553; replace BK553 := kb_ BK553 hb; clear hb hbox hg; obtain ⟨Ao19, co19, eo19⟩ := Kd.R_slice HO557.out; subst eo19; have hnb20 := NB561_551.out; have hnc20 := NB551_561.out; have hnb21 := NB561_552.out; have hnc21 := NB552_561.out; have hnb22 := NB561_553.out; have hnc22 := NB553_561.out; have hcz23_0 := cz_ BK561 0 (.slice none 0 0); have hcz23_1 := cz_ BK561 1 (.int .i64 0); have hfz23_0 := blk_frozen BK561.out 0; have hfz23_1 := blk_frozen BK561.out 1; have hcz24_0 := cz_ BK553 0 (.slice none 0 0); have hcz24_1 := cz_ BK553 1 (.int .i64 0); have hfz24_0 := blk_frozen BK553.out 0; have hfz24_1 := blk_frozen BK553.out 1))
      refine bodyPost_ret (results_ct rfl _ _ gb553 24 #[.slice Ao19 t555.length co19, .int .i64 t558] (0, 0) _ rfl (by (with_reducible repeat (first | refine blk_drewN ?_ _ | refine blk_drew ?_ | refine blk_alloc ?_ _)); refine blk_put (cs := #[.slice Ao19 t555.length co19, .int .i64 0]) ?_ 1 _ rfl; (with_reducible repeat (first | refine blk_drewN ?_ _ | refine blk_drew ?_ | refine blk_alloc ?_ _)); refine blk_put (cs := #[.slice none 0 0, .int .i64 0]) ?_ 0 _ rfl; (with_reducible repeat (first | refine blk_drewN ?_ _ | refine blk_drew ?_ | refine blk_alloc ?_ _)); refine blk_far ?_ NB553_561.out _; (with_reducible repeat (first | refine blk_drewN ?_ _ | refine blk_drew ?_ | refine blk_alloc ?_ _)); refine blk_far ?_ NB553_561.out _; (with_reducible repeat (first | refine blk_drewN ?_ _ | refine blk_drew ?_ | refine blk_alloc ?_ _)); exact BK553.out) Try.underlying24 rfl (by kernel_rfl)) rfl ?_
      exact ⟨_, er_, by (with_reducible repeat (first | apply Kd.R_alloc | apply Kd.R_drewN | apply Kd.R_drew)); exact Kd.R_mono (Kd.R_far (p := ⟨gb553, 1, none⟩) (Kd.R_far (p := ⟨gb553, 0, none⟩) (Kd.R_far (p := ⟨gb561, 1, none⟩) (Kd.R_far (p := ⟨gb561, 0, none⟩) (Kd.R_types (Kd.R_types HO557.out BK561.out (by decide)) BK553.out (by decide)) (fun _ hk => hk.1.2) (.slice Ao19 t555.length co19)) (fun _ hk => hk.1.2) (.int .i64 t558)) (fun _ hk => hk.2) (.slice Ao19 t555.length co19)) (fun _ hk => hk.2) (.int .i64 t558)) (fun _ hk => trivial), pb_ HB⟩
    · rw [if_neg c5] at H
      have c5b0 : (a1_0 == 0) = false := beq_eq_false_iff_ne.mpr c5
      have c5b1 : (a1_0 != 0) = true := bne_iff_ne.mpr c5
      by_cases c25 : a1_0 = 1
      · rw [if_pos c25] at H
        have c25b0 : (a1_0 == 1) = true := beq_iff_eq.mpr c25
        have c25b1 : (a1_0 != 1) = false := bne_eq_false_iff_eq.mpr c25
        clear c25
        replace H := Option.bind_eq_some_iff.mp H
        obtain ⟨⟨t562, t565, t566⟩, A260, H⟩ := H
        replace H : (some (t562, t565, t566)) = some (r1, r2, r3) := H
        have A26 := Aside0.mk A260
        clear A260
        simp only [Option.some.injEq, Prod.mk.injEq] at H
        obtain ⟨rfl, rfl, rfl⟩ := H
        go_enter Try.func52, Try.ntmps52
        go_wp2_with (first | ((with_reducible refine gate_dst (N := 2) rfl ?_); refine box_event ?hg (N := 2) ?hd (cs := #[.slice A0_0 l0_0.length c0_0, .int .i64 a0_1]) (t := 24) ?hr ?_; (case hd => rfl); (case hg => rfl); (case hr => first | (go_simp; done) | (go_simp; rfl)); intro gb551 hg w27 hbox hb; have BK551 := Aside0.mk (hbox); have GW551 := gw_ hg HB; have GE551 := gw_ hg HB; replace HB := sb_ HB hb; clear hb hbox hg) | ((with_reducible refine gate_dst (N := 3) rfl ?_); refine box_event ?hg (N := 3) ?hd (cs := #[.int .i64 a1_0, .int .i64 a1_1, .int .i64 a1_2, .int .i64 a1_3, .string a1_4]) (t := 66) ?hr ?_; (case hd => rfl); (case hg => rfl); (case hr => first | (go_simp; done) | (go_simp; rfl)); intro gb552 hg w28 hbox hb; have BK552 := Aside0.mk (hbox); have GW552 := gw_ hg HB; have GE552 := gw_ hg HB; replace HB := sb_ HB hb; have NB551_552 := nl_ hg BK551; have NB552_551 := ng_ hg BK551; replace BK551 := kb_ BK551 hb; clear hb hbox hg) | ((with_reducible refine gate_dst (N := 4) rfl ?_); refine box_event ?hg (N := 4) ?hd (cs := #[.slice none 0 0, .int .i64 0]) (t := 24) ?hr ?_; (case hd => rfl); (case hg => rfl); (case hr => first | (go_simp; done) | (go_simp; rfl)); intro gb553 hg w29 hbox hb; have BK553 := Aside0.mk (hbox); have GW553 := gw_ hg HB; have GE553 := gw_ hg HB; replace HB := sb_ HB hb; have NB551_553 := nl_ hg BK551; have NB553_551 := ng_ hg BK551; replace BK551 := kb_ BK551 hb; have NB552_553 := nl_ hg BK552; have NB553_552 := ng_ hg BK552; replace BK552 := kb_ BK552 hb; clear hb hbox hg; have hnb30 := NB552_551.out; have hnc30 := NB551_552.out; have hnb31 := NB552_553.out; have hnc31 := NB553_552.out; have hcz32_0 := cz_ BK552 0 (.int .i64 a1_0); have hcz32_1 := cz_ BK552 1 (.int .i64 a1_1); have hcz32_2 := cz_ BK552 2 (.int .i64 a1_2); have hcz32_3 := cz_ BK552 3 (.int .i64 a1_3); have hcz32_4 := cz_ BK552 4 (.string a1_4); have hfz32_0 := blk_frozen BK552.out 0; have hfz32_1 := blk_frozen BK552.out 1; have hfz32_2 := blk_frozen BK552.out 2; have hfz32_3 := blk_frozen BK552.out 3; have hfz32_4 := blk_frozen BK552.out 4) | ((with_reducible refine gate_callee (f := 60) rfl ?_); refine goesL_ (some 11) rfl rfl Try.func60 (by kernel_rfl) rfl #[.agg #[.int .i64 a1_0, .int .i64 a1_1, .int .i64 a1_2, .int .i64 a1_3, .string a1_4]] rfl (by (try simp only [List.map_toArray, List.map_cons, List.map_nil]); first | done | rfl | (simp only [List.length_drop, List.length_take]; rfl)) ?_; (with_reducible refine (segment_form.calls a1_0 a1_1 a1_2 a1_3 a1_4 t554 _ A3.out).mono ?_); rintro e w33 ⟨rfl, hb⟩; refine ⟨_, rfl, ?_⟩; replace BK551 := kb_ BK551 hb; replace BK552 := kb_ BK552 hb; replace BK553 := kb_ BK553 hb; replace HB := sb_ HB hb; (try clear hb); (try clear hb2); (try clear hk); (try clear hi); have hcz34_0 := cz_ BK552 0 (.int .i64 a1_0); have hcz34_1 := cz_ BK552 1 (.int .i64 a1_1); have hcz34_2 := cz_ BK552 2 (.int .i64 a1_2); have hcz34_3 := cz_ BK552 3 (.int .i64 a1_3); have hcz34_4 := cz_ BK552 4 (.string a1_4); have hfz34_0 := blk_frozen BK552.out 0; have hfz34_1 := blk_frozen BK552.out 1; have hfz34_2 := blk_frozen BK552.out 2; have hfz34_3 := blk_frozen BK552.out 3; have hfz34_4 := blk_frozen BK552.out 4; have hnb35 := NB551_553.out; have hnc35 := NB553_551.out; have hcz36_0 := cz_ BK551 0 (.slice A0_0 l0_0.length c0_0); have hcz36_1 := cz_ BK551 1 (.int .i64 a0_1); have hfz36_0 := blk_frozen BK551.out 0; have hfz36_1 := blk_frozen BK551.out 1) | ((with_reducible refine gate_callee (f := 22) rfl ?_); refine goesL_ (some 37) rfl rfl Try.func22 (by kernel_rfl) rfl #[.agg #[.slice A0_0 l0_0.length c0_0, .int .i64 a0_1], .int .i64 a1_1, .int .i64 a1_3] rfl (by (try simp only [List.map_toArray, List.map_cons, List.map_nil]); first | done | rfl | (simp only [List.length_drop, List.length_take]; rfl)) ?_; (with_reducible refine (segment_Extended.calls k _ _ l0_0 a0_1 a1_1 a1_3 t562 t565 t566 _ ?side1 ?side2 A26.out).mono ?_); (case side1 => exact pc_ (Kd.C_below HR0_0.out HB.out)); (case side2 => exact HC0_0.out); rintro e w37 ⟨v563, rfl, ho0, hb⟩; refine ⟨_, rfl, ?_⟩; have HO564 := Aside0.mk (Kd.R_lower ho0 (below_size (pb_ HB))); replace BK551 := kb_ BK551 hb; replace BK552 := kb_ BK552 hb; replace BK553 := kb_ BK553 hb; replace HB := sb_ HB hb; (try clear hb); (try clear hb2); (try clear hk); (try clear hi); (try clear ho0); obtain ⟨Ao38, co38, eo38⟩ := Kd.R_slice HO564.out; subst eo38; have hcz39_0 := cz_ BK553 0 (.slice none 0 0); have hcz39_1 := cz_ BK553 1 (.int .i64 0); have hfz39_0 := blk_frozen BK553.out 0; have hfz39_1 := blk_frozen BK553.out 1))
        refine bodyPost_ret (results_ct rfl _ _ gb553 24 #[.slice Ao38 t562.length co38, .int .i64 t565] (0, 0) _ rfl (by (with_reducible repeat (first | refine blk_drewN ?_ _ | refine blk_drew ?_ | refine blk_alloc ?_ _)); refine blk_put (cs := #[.slice Ao38 t562.length co38, .int .i64 0]) ?_ 1 _ rfl; (with_reducible repeat (first | refine blk_drewN ?_ _ | refine blk_drew ?_ | refine blk_alloc ?_ _)); refine blk_put (cs := #[.slice none 0 0, .int .i64 0]) ?_ 0 _ rfl; (with_reducible repeat (first | refine blk_drewN ?_ _ | refine blk_drew ?_ | refine blk_alloc ?_ _)); exact BK553.out) Try.underlying24 rfl (by kernel_rfl)) rfl ?_
        exact ⟨_, er_, by (with_reducible repeat (first | apply Kd.R_alloc | apply Kd.R_drewN | apply Kd.R_drew)); exact Kd.R_mono (Kd.R_far (p := ⟨gb553, 1, none⟩) (Kd.R_far (p := ⟨gb553, 0, none⟩) (Kd.R_types HO564.out BK553.out (by decide)) (fun _ hk => hk.2) (.slice Ao38 t562.length co38)) (fun _ hk => hk.2) (.int .i64 t565)) (fun _ hk => trivial), pb_ HB⟩
      · rw [if_neg c25] at H
        have c25b0 : (a1_0 == 1) = false := beq_eq_false_iff_ne.mpr c25
        have c25b1 : (a1_0 != 1) = true := bne_iff_ne.mpr c25
        by_cases c40 : a1_0 = 2
        · rw [if_pos c40] at H
          have c40b0 : (a1_0 == 2) = true := beq_iff_eq.mpr c40
          have c40b1 : (a1_0 != 2) = false := bne_eq_false_iff_eq.mpr c40
          clear c40
          replace H := Option.bind_eq_some_iff.mp H
          obtain ⟨⟨t567, t570, t571⟩, A410, H⟩ := H
          replace H : (some (t567, t570, t571)) = some (r1, r2, r3) := H
          have A41 := Aside0.mk A410
          clear A410
          simp only [Option.some.injEq, Prod.mk.injEq] at H
          obtain ⟨rfl, rfl, rfl⟩ := H
          go_enter Try.func52, Try.ntmps52
          go_wp2_with (first | ((with_reducible refine gate_dst (N := 2) rfl ?_); refine box_event ?hg (N := 2) ?hd (cs := #[.slice A0_0 l0_0.length c0_0, .int .i64 a0_1]) (t := 24) ?hr ?_; (case hd => rfl); (case hg => rfl); (case hr => first | (go_simp; done) | (go_simp; rfl)); intro gb551 hg w42 hbox hb; have BK551 := Aside0.mk (hbox); have GW551 := gw_ hg HB; have GE551 := gw_ hg HB; replace HB := sb_ HB hb; clear hb hbox hg) | ((with_reducible refine gate_dst (N := 3) rfl ?_); refine box_event ?hg (N := 3) ?hd (cs := #[.int .i64 a1_0, .int .i64 a1_1, .int .i64 a1_2, .int .i64 a1_3, .string a1_4]) (t := 66) ?hr ?_; (case hd => rfl); (case hg => rfl); (case hr => first | (go_simp; done) | (go_simp; rfl)); intro gb552 hg w43 hbox hb; have BK552 := Aside0.mk (hbox); have GW552 := gw_ hg HB; have GE552 := gw_ hg HB; replace HB := sb_ HB hb; have NB551_552 := nl_ hg BK551; have NB552_551 := ng_ hg BK551; replace BK551 := kb_ BK551 hb; clear hb hbox hg) | ((with_reducible refine gate_dst (N := 4) rfl ?_); refine box_event ?hg (N := 4) ?hd (cs := #[.slice none 0 0, .int .i64 0]) (t := 24) ?hr ?_; (case hd => rfl); (case hg => rfl); (case hr => first | (go_simp; done) | (go_simp; rfl)); intro gb553 hg w44 hbox hb; have BK553 := Aside0.mk (hbox); have GW553 := gw_ hg HB; have GE553 := gw_ hg HB; replace HB := sb_ HB hb; have NB551_553 := nl_ hg BK551; have NB553_551 := ng_ hg BK551; replace BK551 := kb_ BK551 hb; have NB552_553 := nl_ hg BK552; have NB553_552 := ng_ hg BK552; replace BK552 := kb_ BK552 hb; clear hb hbox hg; have hnb45 := NB552_551.out; have hnc45 := NB551_552.out; have hnb46 := NB552_553.out; have hnc46 := NB553_552.out; have hcz47_0 := cz_ BK552 0 (.int .i64 a1_0); have hcz47_1 := cz_ BK552 1 (.int .i64 a1_1); have hcz47_2 := cz_ BK552 2 (.int .i64 a1_2); have hcz47_3 := cz_ BK552 3 (.int .i64 a1_3); have hcz47_4 := cz_ BK552 4 (.string a1_4); have hfz47_0 := blk_frozen BK552.out 0; have hfz47_1 := blk_frozen BK552.out 1; have hfz47_2 := blk_frozen BK552.out 2; have hfz47_3 := blk_frozen BK552.out 3; have hfz47_4 := blk_frozen BK552.out 4) | ((with_reducible refine gate_callee (f := 60) rfl ?_); refine goesL_ (some 11) rfl rfl Try.func60 (by kernel_rfl) rfl #[.agg #[.int .i64 a1_0, .int .i64 a1_1, .int .i64 a1_2, .int .i64 a1_3, .string a1_4]] rfl (by (try simp only [List.map_toArray, List.map_cons, List.map_nil]); first | done | rfl | (simp only [List.length_drop, List.length_take]; rfl)) ?_; (with_reducible refine (segment_form.calls a1_0 a1_1 a1_2 a1_3 a1_4 t554 _ A3.out).mono ?_); rintro e w48 ⟨rfl, hb⟩; refine ⟨_, rfl, ?_⟩; replace BK551 := kb_ BK551 hb; replace BK552 := kb_ BK552 hb; replace BK553 := kb_ BK553 hb; replace HB := sb_ HB hb; (try clear hb); (try clear hb2); (try clear hk); (try clear hi); have hcz49_0 := cz_ BK552 0 (.int .i64 a1_0); have hcz49_1 := cz_ BK552 1 (.int .i64 a1_1); have hcz49_2 := cz_ BK552 2 (.int .i64 a1_2); have hcz49_3 := cz_ BK552 3 (.int .i64 a1_3); have hcz49_4 := cz_ BK552 4 (.string a1_4); have hfz49_0 := blk_frozen BK552.out 0; have hfz49_1 := blk_frozen BK552.out 1; have hfz49_2 := blk_frozen BK552.out 2; have hfz49_3 := blk_frozen BK552.out 3; have hfz49_4 := blk_frozen BK552.out 4; have hnb50 := NB551_553.out; have hnc50 := NB553_551.out; have hcz51_0 := cz_ BK551 0 (.slice A0_0 l0_0.length c0_0); have hcz51_1 := cz_ BK551 1 (.int .i64 a0_1); have hfz51_0 := blk_frozen BK551.out 0; have hfz51_1 := blk_frozen BK551.out 1) | ((with_reducible refine gate_callee (f := 23) rfl ?_); refine goesL_ (some 47) rfl rfl Try.func23 (by kernel_rfl) rfl #[.agg #[.slice A0_0 l0_0.length c0_0, .int .i64 a0_1], .int .i64 a1_1, .int .i64 a1_3] rfl (by (try simp only [List.map_toArray, List.map_cons, List.map_nil]); first | done | rfl | (simp only [List.length_drop, List.length_take]; rfl)) ?_; (with_reducible refine (segment_Truncated.calls k _ _ l0_0 a0_1 a1_1 a1_3 t567 t570 t571 _ ?side1 ?side2 A41.out).mono ?_); (case side1 => exact pc_ (Kd.C_below HR0_0.out HB.out)); (case side2 => exact HC0_0.out); rintro e w52 ⟨v568, rfl, ho0, hb⟩; refine ⟨_, rfl, ?_⟩; have HO569 := Aside0.mk (Kd.R_lower ho0 (below_size (pb_ HB))); replace BK551 := kb_ BK551 hb; replace BK552 := kb_ BK552 hb; replace BK553 := kb_ BK553 hb; replace HB := sb_ HB hb; (try clear hb); (try clear hb2); (try clear hk); (try clear hi); (try clear ho0); obtain ⟨Ao53, co53, eo53⟩ := Kd.R_slice HO569.out; subst eo53; have hcz54_0 := cz_ BK553 0 (.slice none 0 0); have hcz54_1 := cz_ BK553 1 (.int .i64 0); have hfz54_0 := blk_frozen BK553.out 0; have hfz54_1 := blk_frozen BK553.out 1))
          refine bodyPost_ret (results_ct rfl _ _ gb553 24 #[.slice Ao53 t567.length co53, .int .i64 t570] (0, 0) _ rfl (by (with_reducible repeat (first | refine blk_drewN ?_ _ | refine blk_drew ?_ | refine blk_alloc ?_ _)); refine blk_put (cs := #[.slice Ao53 t567.length co53, .int .i64 0]) ?_ 1 _ rfl; (with_reducible repeat (first | refine blk_drewN ?_ _ | refine blk_drew ?_ | refine blk_alloc ?_ _)); refine blk_put (cs := #[.slice none 0 0, .int .i64 0]) ?_ 0 _ rfl; (with_reducible repeat (first | refine blk_drewN ?_ _ | refine blk_drew ?_ | refine blk_alloc ?_ _)); exact BK553.out) Try.underlying24 rfl (by kernel_rfl)) rfl ?_
          exact ⟨_, er_, by (with_reducible repeat (first | apply Kd.R_alloc | apply Kd.R_drewN | apply Kd.R_drew)); exact Kd.R_mono (Kd.R_far (p := ⟨gb553, 1, none⟩) (Kd.R_far (p := ⟨gb553, 0, none⟩) (Kd.R_types HO569.out BK553.out (by decide)) (fun _ hk => hk.2) (.slice Ao53 t567.length co53)) (fun _ hk => hk.2) (.int .i64 t570)) (fun _ hk => trivial), pb_ HB⟩
        · rw [if_neg c40] at H
          have c40b0 : (a1_0 == 2) = false := beq_eq_false_iff_ne.mpr c40
          have c40b1 : (a1_0 != 2) = true := bne_iff_ne.mpr c40
          by_cases c55 : a1_0 = 3
          · rw [if_pos c55] at H
            have c55b0 : (a1_0 == 3) = true := beq_iff_eq.mpr c55
            have c55b1 : (a1_0 != 3) = false := bne_eq_false_iff_eq.mpr c55
            clear c55
            replace H := Option.bind_eq_some_iff.mp H
            obtain ⟨⟨t572, t575, t576⟩, A560, H⟩ := H
            replace H : (some (t572, t575, t576)) = some (r1, r2, r3) := H
            have A56 := Aside0.mk A560
            clear A560
            simp only [Option.some.injEq, Prod.mk.injEq] at H
            obtain ⟨rfl, rfl, rfl⟩ := H
            go_enter Try.func52, Try.ntmps52
            go_wp2_with (first | ((with_reducible refine gate_dst (N := 2) rfl ?_); refine box_event ?hg (N := 2) ?hd (cs := #[.slice A0_0 l0_0.length c0_0, .int .i64 a0_1]) (t := 24) ?hr ?_; (case hd => rfl); (case hg => rfl); (case hr => first | (go_simp; done) | (go_simp; rfl)); intro gb551 hg w57 hbox hb; have BK551 := Aside0.mk (hbox); have GW551 := gw_ hg HB; have GE551 := gw_ hg HB; replace HB := sb_ HB hb; clear hb hbox hg) | ((with_reducible refine gate_dst (N := 3) rfl ?_); refine box_event ?hg (N := 3) ?hd (cs := #[.int .i64 a1_0, .int .i64 a1_1, .int .i64 a1_2, .int .i64 a1_3, .string a1_4]) (t := 66) ?hr ?_; (case hd => rfl); (case hg => rfl); (case hr => first | (go_simp; done) | (go_simp; rfl)); intro gb552 hg w58 hbox hb; have BK552 := Aside0.mk (hbox); have GW552 := gw_ hg HB; have GE552 := gw_ hg HB; replace HB := sb_ HB hb; have NB551_552 := nl_ hg BK551; have NB552_551 := ng_ hg BK551; replace BK551 := kb_ BK551 hb; clear hb hbox hg) | ((with_reducible refine gate_dst (N := 4) rfl ?_); refine box_event ?hg (N := 4) ?hd (cs := #[.slice none 0 0, .int .i64 0]) (t := 24) ?hr ?_; (case hd => rfl); (case hg => rfl); (case hr => first | (go_simp; done) | (go_simp; rfl)); intro gb553 hg w59 hbox hb; have BK553 := Aside0.mk (hbox); have GW553 := gw_ hg HB; have GE553 := gw_ hg HB; replace HB := sb_ HB hb; have NB551_553 := nl_ hg BK551; have NB553_551 := ng_ hg BK551; replace BK551 := kb_ BK551 hb; have NB552_553 := nl_ hg BK552; have NB553_552 := ng_ hg BK552; replace BK552 := kb_ BK552 hb; clear hb hbox hg; have hnb60 := NB552_551.out; have hnc60 := NB551_552.out; have hnb61 := NB552_553.out; have hnc61 := NB553_552.out; have hcz62_0 := cz_ BK552 0 (.int .i64 a1_0); have hcz62_1 := cz_ BK552 1 (.int .i64 a1_1); have hcz62_2 := cz_ BK552 2 (.int .i64 a1_2); have hcz62_3 := cz_ BK552 3 (.int .i64 a1_3); have hcz62_4 := cz_ BK552 4 (.string a1_4); have hfz62_0 := blk_frozen BK552.out 0; have hfz62_1 := blk_frozen BK552.out 1; have hfz62_2 := blk_frozen BK552.out 2; have hfz62_3 := blk_frozen BK552.out 3; have hfz62_4 := blk_frozen BK552.out 4) | ((with_reducible refine gate_callee (f := 60) rfl ?_); refine goesL_ (some 11) rfl rfl Try.func60 (by kernel_rfl) rfl #[.agg #[.int .i64 a1_0, .int .i64 a1_1, .int .i64 a1_2, .int .i64 a1_3, .string a1_4]] rfl (by (try simp only [List.map_toArray, List.map_cons, List.map_nil]); first | done | rfl | (simp only [List.length_drop, List.length_take]; rfl)) ?_; (with_reducible refine (segment_form.calls a1_0 a1_1 a1_2 a1_3 a1_4 t554 _ A3.out).mono ?_); rintro e w63 ⟨rfl, hb⟩; refine ⟨_, rfl, ?_⟩; replace BK551 := kb_ BK551 hb; replace BK552 := kb_ BK552 hb; replace BK553 := kb_ BK553 hb; replace HB := sb_ HB hb; (try clear hb); (try clear hb2); (try clear hk); (try clear hi); have hcz64_0 := cz_ BK552 0 (.int .i64 a1_0); have hcz64_1 := cz_ BK552 1 (.int .i64 a1_1); have hcz64_2 := cz_ BK552 2 (.int .i64 a1_2); have hcz64_3 := cz_ BK552 3 (.int .i64 a1_3); have hcz64_4 := cz_ BK552 4 (.string a1_4); have hfz64_0 := blk_frozen BK552.out 0; have hfz64_1 := blk_frozen BK552.out 1; have hfz64_2 := blk_frozen BK552.out 2; have hfz64_3 := blk_frozen BK552.out 3; have hfz64_4 := blk_frozen BK552.out 4; have hnb65 := NB551_553.out; have hnc65 := NB553_551.out; have hcz66_0 := cz_ BK551 0 (.slice A0_0 l0_0.length c0_0); have hcz66_1 := cz_ BK551 1 (.int .i64 a0_1); have hfz66_0 := blk_frozen BK551.out 0; have hfz66_1 := blk_frozen BK551.out 1) | ((with_reducible refine gate_callee (f := 14) rfl ?_); refine goesL_ (some 55) rfl rfl Try.func14 (by kernel_rfl) rfl #[.agg #[.slice A0_0 l0_0.length c0_0, .int .i64 a0_1], .int .i64 a1_1] rfl (by (try simp only [List.map_toArray, List.map_cons, List.map_nil]); first | done | rfl | (simp only [List.length_drop, List.length_take]; rfl)) ?_; (with_reducible refine (segment_Destroyed.calls k _ _ l0_0 a0_1 a1_1 t572 t575 t576 _ ?side1 ?side2 A56.out).mono ?_); (case side1 => exact pc_ (Kd.C_below HR0_0.out HB.out)); (case side2 => exact HC0_0.out); rintro e w67 ⟨v573, rfl, ho0, hb⟩; refine ⟨_, rfl, ?_⟩; have HO574 := Aside0.mk (Kd.R_lower ho0 (below_size (pb_ HB))); replace BK551 := kb_ BK551 hb; replace BK552 := kb_ BK552 hb; replace BK553 := kb_ BK553 hb; replace HB := sb_ HB hb; (try clear hb); (try clear hb2); (try clear hk); (try clear hi); (try clear ho0); obtain ⟨Ao68, co68, eo68⟩ := Kd.R_slice HO574.out; subst eo68; have hcz69_0 := cz_ BK553 0 (.slice none 0 0); have hcz69_1 := cz_ BK553 1 (.int .i64 0); have hfz69_0 := blk_frozen BK553.out 0; have hfz69_1 := blk_frozen BK553.out 1))
            refine bodyPost_ret (results_ct rfl _ _ gb553 24 #[.slice Ao68 t572.length co68, .int .i64 t575] (0, 0) _ rfl (by (with_reducible repeat (first | refine blk_drewN ?_ _ | refine blk_drew ?_ | refine blk_alloc ?_ _)); refine blk_put (cs := #[.slice Ao68 t572.length co68, .int .i64 0]) ?_ 1 _ rfl; (with_reducible repeat (first | refine blk_drewN ?_ _ | refine blk_drew ?_ | refine blk_alloc ?_ _)); refine blk_put (cs := #[.slice none 0 0, .int .i64 0]) ?_ 0 _ rfl; (with_reducible repeat (first | refine blk_drewN ?_ _ | refine blk_drew ?_ | refine blk_alloc ?_ _)); exact BK553.out) Try.underlying24 rfl (by kernel_rfl)) rfl ?_
            exact ⟨_, er_, by (with_reducible repeat (first | apply Kd.R_alloc | apply Kd.R_drewN | apply Kd.R_drew)); exact Kd.R_mono (Kd.R_far (p := ⟨gb553, 1, none⟩) (Kd.R_far (p := ⟨gb553, 0, none⟩) (Kd.R_types HO574.out BK553.out (by decide)) (fun _ hk => hk.2) (.slice Ao68 t572.length co68)) (fun _ hk => hk.2) (.int .i64 t575)) (fun _ hk => trivial), pb_ HB⟩
          · rw [if_neg c55] at H
            have c55b0 : (a1_0 == 3) = false := beq_eq_false_iff_ne.mpr c55
            have c55b1 : (a1_0 != 3) = true := bne_iff_ne.mpr c55
            replace H := Option.bind_eq_some_iff.mp H
            obtain ⟨⟨t577, t580, t581⟩, A700, H⟩ := H
            replace H : (some (t577, t580, t581)) = some (r1, r2, r3) := H
            have A70 := Aside0.mk A700
            clear A700
            simp only [Option.some.injEq, Prod.mk.injEq] at H
            obtain ⟨rfl, rfl, rfl⟩ := H
            go_enter Try.func52, Try.ntmps52
            go_wp2_with (first | ((with_reducible refine gate_dst (N := 2) rfl ?_); refine box_event ?hg (N := 2) ?hd (cs := #[.slice A0_0 l0_0.length c0_0, .int .i64 a0_1]) (t := 24) ?hr ?_; (case hd => rfl); (case hg => rfl); (case hr => first | (go_simp; done) | (go_simp; rfl)); intro gb551 hg w71 hbox hb; have BK551 := Aside0.mk (hbox); have GW551 := gw_ hg HB; have GE551 := gw_ hg HB; replace HB := sb_ HB hb; clear hb hbox hg) | ((with_reducible refine gate_dst (N := 3) rfl ?_); refine box_event ?hg (N := 3) ?hd (cs := #[.int .i64 a1_0, .int .i64 a1_1, .int .i64 a1_2, .int .i64 a1_3, .string a1_4]) (t := 66) ?hr ?_; (case hd => rfl); (case hg => rfl); (case hr => first | (go_simp; done) | (go_simp; rfl)); intro gb552 hg w72 hbox hb; have BK552 := Aside0.mk (hbox); have GW552 := gw_ hg HB; have GE552 := gw_ hg HB; replace HB := sb_ HB hb; have NB551_552 := nl_ hg BK551; have NB552_551 := ng_ hg BK551; replace BK551 := kb_ BK551 hb; clear hb hbox hg) | ((with_reducible refine gate_dst (N := 4) rfl ?_); refine box_event ?hg (N := 4) ?hd (cs := #[.slice none 0 0, .int .i64 0]) (t := 24) ?hr ?_; (case hd => rfl); (case hg => rfl); (case hr => first | (go_simp; done) | (go_simp; rfl)); intro gb553 hg w73 hbox hb; have BK553 := Aside0.mk (hbox); have GW553 := gw_ hg HB; have GE553 := gw_ hg HB; replace HB := sb_ HB hb; have NB551_553 := nl_ hg BK551; have NB553_551 := ng_ hg BK551; replace BK551 := kb_ BK551 hb; have NB552_553 := nl_ hg BK552; have NB553_552 := ng_ hg BK552; replace BK552 := kb_ BK552 hb; clear hb hbox hg; have hnb74 := NB552_551.out; have hnc74 := NB551_552.out; have hnb75 := NB552_553.out; have hnc75 := NB553_552.out; have hcz76_0 := cz_ BK552 0 (.int .i64 a1_0); have hcz76_1 := cz_ BK552 1 (.int .i64 a1_1); have hcz76_2 := cz_ BK552 2 (.int .i64 a1_2); have hcz76_3 := cz_ BK552 3 (.int .i64 a1_3); have hcz76_4 := cz_ BK552 4 (.string a1_4); have hfz76_0 := blk_frozen BK552.out 0; have hfz76_1 := blk_frozen BK552.out 1; have hfz76_2 := blk_frozen BK552.out 2; have hfz76_3 := blk_frozen BK552.out 3; have hfz76_4 := blk_frozen BK552.out 4) | ((with_reducible refine gate_callee (f := 60) rfl ?_); refine goesL_ (some 11) rfl rfl Try.func60 (by kernel_rfl) rfl #[.agg #[.int .i64 a1_0, .int .i64 a1_1, .int .i64 a1_2, .int .i64 a1_3, .string a1_4]] rfl (by (try simp only [List.map_toArray, List.map_cons, List.map_nil]); first | done | rfl | (simp only [List.length_drop, List.length_take]; rfl)) ?_; (with_reducible refine (segment_form.calls a1_0 a1_1 a1_2 a1_3 a1_4 t554 _ A3.out).mono ?_); rintro e w77 ⟨rfl, hb⟩; refine ⟨_, rfl, ?_⟩; replace BK551 := kb_ BK551 hb; replace BK552 := kb_ BK552 hb; replace BK553 := kb_ BK553 hb; replace HB := sb_ HB hb; (try clear hb); (try clear hb2); (try clear hk); (try clear hi); have hcz78_0 := cz_ BK552 0 (.int .i64 a1_0); have hcz78_1 := cz_ BK552 1 (.int .i64 a1_1); have hcz78_2 := cz_ BK552 2 (.int .i64 a1_2); have hcz78_3 := cz_ BK552 3 (.int .i64 a1_3); have hcz78_4 := cz_ BK552 4 (.string a1_4); have hfz78_0 := blk_frozen BK552.out 0; have hfz78_1 := blk_frozen BK552.out 1; have hfz78_2 := blk_frozen BK552.out 2; have hfz78_3 := blk_frozen BK552.out 3; have hfz78_4 := blk_frozen BK552.out 4; have hnb79 := NB551_553.out; have hnc79 := NB553_551.out; have hcz80_0 := cz_ BK551 0 (.slice A0_0 l0_0.length c0_0); have hcz80_1 := cz_ BK551 1 (.int .i64 a0_1); have hfz80_0 := blk_frozen BK551.out 0; have hfz80_1 := blk_frozen BK551.out 1) | ((with_reducible refine gate_callee (f := 27) rfl ?_); refine goesL_ (some 66) rfl rfl Try.func27 (by kernel_rfl) rfl #[.agg #[.slice A0_0 l0_0.length c0_0, .int .i64 a0_1], .agg #[.int .i64 a1_1, .int .i64 a1_2], .string a1_4] rfl (by (try simp only [List.map_toArray, List.map_cons, List.map_nil]); first | done | rfl | (simp only [List.length_drop, List.length_take]; rfl)) ?_; (with_reducible refine (segment_Written.calls k _ _ l0_0 a0_1 a1_1 a1_2 a1_4 t577 t580 t581 _ ?side1 ?side2 A70.out).mono ?_); (case side1 => exact pc_ (Kd.C_below HR0_0.out HB.out)); (case side2 => exact HC0_0.out); rintro e w81 ⟨v578, rfl, ho0, hb⟩; refine ⟨_, rfl, ?_⟩; have HO579 := Aside0.mk (Kd.R_lower ho0 (below_size (pb_ HB))); replace BK551 := kb_ BK551 hb; replace BK552 := kb_ BK552 hb; replace BK553 := kb_ BK553 hb; replace HB := sb_ HB hb; (try clear hb); (try clear hb2); (try clear hk); (try clear hi); (try clear ho0); obtain ⟨Ao82, co82, eo82⟩ := Kd.R_slice HO579.out; subst eo82; have hcz83_0 := cz_ BK553 0 (.slice none 0 0); have hcz83_1 := cz_ BK553 1 (.int .i64 0); have hfz83_0 := blk_frozen BK553.out 0; have hfz83_1 := blk_frozen BK553.out 1))
            refine bodyPost_ret (results_ct rfl _ _ gb553 24 #[.slice Ao82 t577.length co82, .int .i64 t580] (0, 0) _ rfl (by (with_reducible repeat (first | refine blk_drewN ?_ _ | refine blk_drew ?_ | refine blk_alloc ?_ _)); refine blk_put (cs := #[.slice Ao82 t577.length co82, .int .i64 0]) ?_ 1 _ rfl; (with_reducible repeat (first | refine blk_drewN ?_ _ | refine blk_drew ?_ | refine blk_alloc ?_ _)); refine blk_put (cs := #[.slice none 0 0, .int .i64 0]) ?_ 0 _ rfl; (with_reducible repeat (first | refine blk_drewN ?_ _ | refine blk_drew ?_ | refine blk_alloc ?_ _)); exact BK553.out) Try.underlying24 rfl (by kernel_rfl)) rfl ?_
            exact ⟨_, er_, by (with_reducible repeat (first | apply Kd.R_alloc | apply Kd.R_drewN | apply Kd.R_drew)); exact Kd.R_mono (Kd.R_far (p := ⟨gb553, 1, none⟩) (Kd.R_far (p := ⟨gb553, 0, none⟩) (Kd.R_types HO579.out BK553.out (by decide)) (fun _ hk => hk.2) (.slice Ao82 t577.length co82)) (fun _ hk => hk.2) (.int .i64 t580)) (fun _ hk => trivial), pb_ HB⟩
  · rw [if_neg c4] at H
    have c4b0 : (t554 == 0) = false := beq_eq_false_iff_ne.mpr c4
    have c4b1 : (t554 != 0) = true := bne_iff_ne.mpr c4
    simp only [Option.some.injEq, Prod.mk.injEq] at H
    obtain ⟨rfl, rfl, rfl⟩ := H
    go_enter Try.func52, Try.ntmps52
    go_wp2_with (first | ((with_reducible refine gate_dst (N := 2) rfl ?_); refine box_event ?hg (N := 2) ?hd (cs := #[.slice A0_0 l0_0.length c0_0, .int .i64 a0_1]) (t := 24) ?hr ?_; (case hd => rfl); (case hg => rfl); (case hr => first | (go_simp; done) | (go_simp; rfl)); intro gb551 hg w84 hbox hb; have BK551 := Aside0.mk (hbox); have GW551 := gw_ hg HB; have GE551 := gw_ hg HB; replace HB := sb_ HB hb; clear hb hbox hg) | ((with_reducible refine gate_dst (N := 3) rfl ?_); refine box_event ?hg (N := 3) ?hd (cs := #[.int .i64 a1_0, .int .i64 a1_1, .int .i64 a1_2, .int .i64 a1_3, .string a1_4]) (t := 66) ?hr ?_; (case hd => rfl); (case hg => rfl); (case hr => first | (go_simp; done) | (go_simp; rfl)); intro gb552 hg w85 hbox hb; have BK552 := Aside0.mk (hbox); have GW552 := gw_ hg HB; have GE552 := gw_ hg HB; replace HB := sb_ HB hb; have NB551_552 := nl_ hg BK551; have NB552_551 := ng_ hg BK551; replace BK551 := kb_ BK551 hb; clear hb hbox hg) | ((with_reducible refine gate_dst (N := 4) rfl ?_); refine box_event ?hg (N := 4) ?hd (cs := #[.slice none 0 0, .int .i64 0]) (t := 24) ?hr ?_; (case hd => rfl); (case hg => rfl); (case hr => first | (go_simp; done) | (go_simp; rfl)); intro gb553 hg w86 hbox hb; have BK553 := Aside0.mk (hbox); have GW553 := gw_ hg HB; have GE553 := gw_ hg HB; replace HB := sb_ HB hb; have NB551_553 := nl_ hg BK551; have NB553_551 := ng_ hg BK551; replace BK551 := kb_ BK551 hb; have NB552_553 := nl_ hg BK552; have NB553_552 := ng_ hg BK552; replace BK552 := kb_ BK552 hb; clear hb hbox hg; have hnb87 := NB552_551.out; have hnc87 := NB551_552.out; have hnb88 := NB552_553.out; have hnc88 := NB553_552.out; have hcz89_0 := cz_ BK552 0 (.int .i64 a1_0); have hcz89_1 := cz_ BK552 1 (.int .i64 a1_1); have hcz89_2 := cz_ BK552 2 (.int .i64 a1_2); have hcz89_3 := cz_ BK552 3 (.int .i64 a1_3); have hcz89_4 := cz_ BK552 4 (.string a1_4); have hfz89_0 := blk_frozen BK552.out 0; have hfz89_1 := blk_frozen BK552.out 1; have hfz89_2 := blk_frozen BK552.out 2; have hfz89_3 := blk_frozen BK552.out 3; have hfz89_4 := blk_frozen BK552.out 4) | ((with_reducible refine gate_callee (f := 60) rfl ?_); refine goesL_ (some 11) rfl rfl Try.func60 (by kernel_rfl) rfl #[.agg #[.int .i64 a1_0, .int .i64 a1_1, .int .i64 a1_2, .int .i64 a1_3, .string a1_4]] rfl (by (try simp only [List.map_toArray, List.map_cons, List.map_nil]); first | done | rfl | (simp only [List.length_drop, List.length_take]; rfl)) ?_; (with_reducible refine (segment_form.calls a1_0 a1_1 a1_2 a1_3 a1_4 t554 _ A3.out).mono ?_); rintro e w90 ⟨rfl, hb⟩; refine ⟨_, rfl, ?_⟩; replace BK551 := kb_ BK551 hb; replace BK552 := kb_ BK552 hb; replace BK553 := kb_ BK553 hb; replace HB := sb_ HB hb; (try clear hb); (try clear hb2); (try clear hk); (try clear hi); have hnb91 := NB553_551.out; have hnc91 := NB551_553.out; have hcz92_0 := cz_ BK553 0 (.slice none 0 0); have hcz92_1 := cz_ BK553 1 (.int .i64 0); have hfz92_0 := blk_frozen BK553.out 0; have hfz92_1 := blk_frozen BK553.out 1))
    refine bodyPost_ret (results_ct rfl _ _ gb553 24 #[.slice none 0 0, .int .i64 0] (0, 0) _ rfl (by (with_reducible repeat (first | refine blk_drewN ?_ _ | refine blk_drew ?_ | refine blk_alloc ?_ _)); refine blk_put (cs := #[.slice none 0 0, .int .i64 0]) ?_ 1 _ rfl; (with_reducible repeat (first | refine blk_drewN ?_ _ | refine blk_drew ?_ | refine blk_alloc ?_ _)); refine blk_put (cs := #[.slice none 0 0, .int .i64 0]) ?_ 0 _ rfl; (with_reducible repeat (first | refine blk_drewN ?_ _ | refine blk_drew ?_ | refine blk_alloc ?_ _)); exact BK553.out) Try.underlying24 rfl (by kernel_rfl)) rfl ?_
    exact ⟨_, er_, by first | exact Kd.R_nil _ _ _ _ _ | exact Kd.N_nil _ _ _ _ _ | exact Kd.V_nil _ _ _ _ _ | exact Kd.Q_nil _ _ _ _ _ | exact Kd.S_nil _ _ _ _ _, pb_ HB⟩

end Go.Proofs.Ytoabahlaicgmjaa.X
end
section
namespace Go.Proofs.Ytoabahlaicgmjaa.X
open Go.Proofs.Ytoabahlaicgmjaa.XW Go.Proofs.Ytoabahlaicgmjaa.XS
open Go.RowKit Go.Proofs.YtoabahlaicgmjaaW.PrintWords Go.Proofs.YtoabahlaicgmjaaW.PrintLast Go.Proofs.YtoabahlaicgmjaaW.PrintMore
attribute [local go_sem] max2_int min2_int max_two min_two max_three min_three max_four min_four   -- for this text's walks alone
set_option linter.unusedVariables false
set_option linter.unusedSimpArgs false

/-! ### segment_Applied: function 32 -/
def segment_Applied.l0 : Nat → List (S66) → List (S66) → Int → Int → List (S56) → Int → Option ((List (S56)) × Int × Int × Int)
  | 0, _, _, _, _, _, _ => none
  | k + 1, x1, x33, x34, x35, x590000, x590001 => if x35 < x34 then (if 0 ≤ x35 then (if x35 < (x33.length : Int) then ((segment_apply.f k x590000 x590001 ((rd_T66 x33 x35).f0) ((rd_T66 x33 x35).f1) ((rd_T66 x33 x35).f2) ((rd_T66 x33 x35).f3) ((rd_T66 x33 x35).f4)).bind fun bt592 => (if bt592.2.2 = 0 then (segment_Applied.l0 k x1 x33 x34 (wrap64 (x35 + 1)) bt592.1 bt592.2.1) else (some (([] : List (S56)), 0, x35, bt592.2.2)))) else (none)) else (none)) else (some (x590000, x590001, (x1.length : Int), 0))
def segment_Applied.f (k : Nat) (l0_0 : List (S56)) (a0_1 : Int) (l1 : List (S66)) : Option ((List (S56)) × Int × Int × Int) := (segment_CheckStore.f k l0_0 a0_1).bind fun bt584 => (if bt584.2 = 0 then (if (l1.length : Int) > 40 then (some (([] : List (S56)), 0, 0, 2)) else ((api_Segment_38.f l0_0).bind fun t586 => (segment_Applied.l0 k l1 l1 (l1.length : Int) 0 t586 a0_1))) else (some (([] : List (S56)), 0, 0, bt584.2)))
def segment_Applied.T6 : Bool × List (List Nat × List Nat) := (true, [([], []), ([0], [0]), ([1], [1]), ([], []), ([3], [3]), ([2, 4], [2, 4]), ([], []), ([6, 5, 2, 0, 1, 2, 3, 4, 5, 6], [5, 6])])
def segment_Applied.B6 : List Nat := [0, 1, 3, 0, 8, 31, 0, 127]
theorem segment_Applied.tab6 : rtab .any (opsOf Try.f32 6) = segment_Applied.T6 := by kernel_rfl
theorem segment_Applied.bits6 : waitsOk segment_Applied.T6.2 segment_Applied.B6 = true := by kernel_rfl
set_option maxHeartbeats 8000000 in
set_option maxRecDepth 100000 in
theorem segment_Applied.calls (k : Nat) (A0_0 : Option Addr) (c0_0 : Nat) (l0_0 : List (S56)) (a0_1 : Int) (A1 : Option Addr) (c1 : Nat) (l1 : List (S66)) (r1 : List (S56)) (r2 : Int) (r3 : Int) (r4 : Int) (w : World) (hr0_0 : Kd.C k56 w A0_0 l0_0.length l0_0) (hc0_0 : l0_0.length ≤ c0_0) (hr1 : Kd.C k66 w A1 l1.length l1) (hc1 : l1.length ≤ c1) (h : segment_Applied.f k l0_0 a0_1 l1 = some (r1, r2, r3, r4)) :
    Calls Try.prog 32 #[.agg #[.slice A0_0 l0_0.length c0_0, .int .i64 a0_1], .slice A1 l1.length c1] w fun e w' => ∃ v0_ : Value, e = .returned (.tuple #[.agg #[v0_, .int .i64 r2], .int .i64 r3, .int .i64 r4]) ∧ Kd.R k56 56 w' w.heap.size (fun _ => True) v0_ r1 ∧ Below w.heap.size w w' := by
  have hu24 := Try.underlying24
  have hu66 := Try.underlying66
  have HR0_0 := Aside0.mk hr0_0
  have HC0_0 := Aside0.mk hc0_0
  clear hr0_0 hc0_0
  have HR1 := Aside0.mk hr1
  have HC1 := Aside0.mk hc1
  clear hr1 hc1
  have HB := Aside0.mk (Below.refl w.heap.size w)
  have H : ((segment_CheckStore.f k l0_0 a0_1).bind fun bt584 => (if bt584.2 = 0 then (if (l1.length : Int) > 40 then (some (([] : List (S56)), 0, 0, 2)) else ((api_Segment_38.f l0_0).bind fun t586 => (segment_Applied.l0 k l1 l1 (l1.length : Int) 0 t586 a0_1))) else (some (([] : List (S56)), 0, 0, bt584.2)))) = some (r1, r2, r3, r4) := h
  clear h
  replace H := Option.bind_eq_some_iff.mp H
  obtain ⟨⟨t584, t585⟩, A30, H⟩ := H
  replace H : (if t585 = 0 then (if (l1.length : Int) > 40 then (some (([] : List (S56)), 0, 0, 2)) else ((api_Segment_38.f l0_0).bind fun t586 => (segment_Applied.l0 k l1 l1 (l1.length : Int) 0 t586 a0_1))) else (some (([] : List (S56)), 0, 0, t585))) = some (r1, r2, r3, r4) := H
  have A3 := Aside0.mk A30
  clear A30
  by_cases c4 : t585 = 0
  · rw [if_pos c4] at H
    have c4b0 : (t585 == 0) = true := beq_iff_eq.mpr c4
    have c4b1 : (t585 != 0) = false := bne_eq_false_iff_eq.mpr c4
    clear c4
    by_cases c5 : (l1.length : Int) > 40
    · rw [if_pos c5] at H
      have c5b0 : decide (40 < (l1.length : Int)) = true := decide_eq_true c5
      have c5b1 : decide (40 < l1.length) = true := decide_eq_true (by omega)
      clear c5
      simp only [Option.some.injEq, Prod.mk.injEq] at H
      obtain ⟨rfl, rfl, rfl, rfl⟩ := H
      go_enter Try.func32, Try.ntmps32
      go_wp2_with (first | ((with_reducible refine gate_dst (N := 2) rfl ?_); refine box_event ?hg (N := 2) ?hd (cs := #[.slice A0_0 l0_0.length c0_0, .int .i64 a0_1]) (t := 24) ?hr ?_; (case hd => rfl); (case hg => rfl); (case hr => first | (go_simp; done) | (go_simp; rfl)); intro gb582 hg w6 hbox hb; have BK582 := Aside0.mk (hbox); have GW582 := gw_ hg HB; have GE582 := gw_ hg HB; replace HB := sb_ HB hb; clear hb hbox hg) | ((with_reducible refine gate_dst (N := 4) rfl ?_); refine box_event ?hg (N := 4) ?hd (cs := #[.slice none 0 0, .int .i64 0]) (t := 24) ?hr ?_; (case hd => rfl); (case hg => rfl); (case hr => first | (go_simp; done) | (go_simp; rfl)); intro gb583 hg w7 hbox hb; have BK583 := Aside0.mk (hbox); have GW583 := gw_ hg HB; have GE583 := gw_ hg HB; replace HB := sb_ HB hb; have NB582_583 := nl_ hg BK582; have NB583_582 := ng_ hg BK582; replace BK582 := kb_ BK582 hb; clear hb hbox hg; have hnb8 := NB582_583.out; have hnc8 := NB583_582.out; have hcz9_0 := cz_ BK582 0 (.slice A0_0 l0_0.length c0_0); have hcz9_1 := cz_ BK582 1 (.int .i64 a0_1); have hfz9_0 := blk_frozen BK582.out 0; have hfz9_1 := blk_frozen BK582.out 1) | ((with_reducible refine gate_callee (f := 18) rfl ?_); refine goesL_ (some 16) rfl rfl Try.func18 (by kernel_rfl) rfl #[.agg #[.slice A0_0 l0_0.length c0_0, .int .i64 a0_1]] rfl (by (try simp only [List.map_toArray, List.map_cons, List.map_nil]); first | done | rfl | (simp only [List.length_drop, List.length_take]; rfl)) ?_; (with_reducible refine (segment_CheckStore.calls k _ _ l0_0 a0_1 t584 t585 _ ?side1 ?side2 A3.out).mono ?_); (case side1 => exact pc_ (Kd.C_below HR0_0.out HB.out)); (case side2 => exact HC0_0.out); rintro e w10 ⟨rfl, hb⟩; refine ⟨_, rfl, ?_⟩; replace BK582 := kb_ BK582 hb; replace BK583 := kb_ BK583 hb; replace HB := sb_ HB hb; (try clear hb); (try clear hb2); (try clear hk); (try clear hi); have hcz11_0 := cz_ BK583 0 (.slice none 0 0); have hcz11_1 := cz_ BK583 1 (.int .i64 0); have hfz11_0 := blk_frozen BK583.out 0; have hfz11_1 := blk_frozen BK583.out 1))
      refine bodyPost_ret (results_ctt rfl _ _ gb583 24 #[.slice none 0 0, .int .i64 0] (0, 0) _ rfl (by (with_reducible repeat (first | refine blk_drewN ?_ _ | refine blk_drew ?_ | refine blk_alloc ?_ _)); refine blk_put (cs := #[.slice none 0 0, .int .i64 0]) ?_ 1 _ rfl; (with_reducible repeat (first | refine blk_drewN ?_ _ | refine blk_drew ?_ | refine blk_alloc ?_ _)); refine blk_put (cs := #[.slice none 0 0, .int .i64 0]) ?_ 0 _ rfl; (with_reducible repeat (first | refine blk_drewN ?_ _ | refine blk_drew ?_ | refine blk_alloc ?_ _)); exact BK583.out) Try.underlying24 rfl (by kernel_rfl)) rfl ?_
      exact ⟨_, er_, by first | exact Kd.R_nil _ _ _ _ _ | exact Kd.N_nil _ _ _ _ _ | exact Kd.V_nil _ _ _ _ _ | exact Kd.Q_nil _ _ _ _ _ | exact Kd.S_nil _ _ _ _ _, pb_ HB⟩
    · rw [if_neg c5] at H
      have c5b0 : decide (40 < (l1.length : Int)) = false := decide_eq_false c5
      have c5b1 : decide (40 < l1.length) = false := decide_eq_false (by omega)
      clear c5
      replace H := Option.bind_eq_some_iff.mp H
      obtain ⟨t586, A120, H⟩ := H
      replace H : (segment_Applied.l0 k l1 l1 (l1.length : Int) 0 t586 a0_1) = some (r1, r2, r3, r4) := H
      have A12 := Aside0.mk A120
      clear A120
      have H' := Aside0.mk H
      clear H
      go_enter Try.func32, Try.ntmps32
      try go_wp2_with (first | ((with_reducible refine gate_dst (N := 2) rfl ?_); refine box_event ?hg (N := 2) ?hd (cs := #[.slice A0_0 l0_0.length c0_0, .int .i64 a0_1]) (t := 24) ?hr ?_; (case hd => rfl); (case hg => rfl); (case hr => first | (go_simp; done) | (go_simp; rfl)); intro gb582 hg w13 hbox hb; have BK582 := Aside0.mk (hbox); have GW582 := gw_ hg HB; have GE582 := gw_ hg HB; replace HB := sb_ HB hb; clear hb hbox hg) | ((with_reducible refine gate_dst (N := 4) rfl ?_); refine box_event ?hg (N := 4) ?hd (cs := #[.slice none 0 0, .int .i64 0]) (t := 24) ?hr ?_; (case hd => rfl); (case hg => rfl); (case hr => first | (go_simp; done) | (go_simp; rfl)); intro gb583 hg w14 hbox hb; have BK583 := Aside0.mk (hbox); have GW583 := gw_ hg HB; have GE583 := gw_ hg HB; replace HB := sb_ HB hb; have NB582_583 := nl_ hg BK582; have NB583_582 := ng_ hg BK582; replace BK582 := kb_ BK582 hb; clear hb hbox hg; have hnb15 := NB582_583.out; have hnc15 := NB583_582.out; have hcz16_0 := cz_ BK582 0 (.slice A0_0 l0_0.length c0_0); have hcz16_1 := cz_ BK582 1 (.int .i64 a0_1); have hfz16_0 := blk_frozen BK582.out 0; have hfz16_1 := blk_frozen BK582.out 1) | ((with_reducible refine gate_callee (f := 18) rfl ?_); refine goesL_ (some 16) rfl rfl Try.func18 (by kernel_rfl) rfl #[.agg #[.slice A0_0 l0_0.length c0_0, .int .i64 a0_1]] rfl (by (try simp only [List.map_toArray, List.map_cons, List.map_nil]); first | done | rfl | (simp only [List.length_drop, List.length_take]; rfl)) ?_; (with_reducible refine (segment_CheckStore.calls k _ _ l0_0 a0_1 t584 t585 _ ?side1 ?side2 A3.out).mono ?_); (case side1 => exact pc_ (Kd.C_below HR0_0.out HB.out)); (case side2 => exact HC0_0.out); rintro e w17 ⟨rfl, hb⟩; refine ⟨_, rfl, ?_⟩; replace BK582 := kb_ BK582 hb; replace BK583 := kb_ BK583 hb; replace HB := sb_ HB hb; (try clear hb); (try clear hb2); (try clear hk); (try clear hi)))
      replace BK582 := Aside0.mk (blk_drew BK582.out)
      replace BK583 := Aside0.mk (blk_drew BK583.out)
      replace HB := Aside0.mk (below_drew1 HB.out)
      refine start_ (n := 8) (S := fun w' => w'.cell? ⟨gb582, 0, none⟩ = some (.slice A0_0 l0_0.length c0_0) ∧ w'.cell? ⟨gb582, 1, none⟩ = some (.int .i64 a0_1)) (ds := []) #[false, false, false, false, false, false, false, false] (by kernel_rfl) rfl rfl ⟨(blk_cell BK582.out 0).trans rfl, (blk_cell BK582.out 1).trans rfl⟩ (fun hHeld => ?_); refine with_tabW segment_Applied.tab6 segment_Applied.bits6 (fun HT_ HW_ => ?_)
      generalize w17.drew = w18 at BK582 BK583 HB hHeld ⊢
      refine pu_ 0 27 HT_ ?_
      refine pu_ 3 30 HT_ ?_
      refine take_ (i := 1) (N := some 28) (v := ?_) (a' := ?_) #[true, true, false, true, false, false, false, false] rfl rfl (take_ofW HT_.out HW_.out (by kernel_rfl)) (fun _ _ _ h => h) (Or.inl ⟨by rfl, ?_⟩) hHeld ?_ ?_
      rotate_left
      · rintro w' ⟨s0, s1⟩
        go_simp
        with_reducible rfl
      rotate_left
      · simp only [Act.put, List.setIfInBounds_toArray, List.set_cons_zero, List.set_cons_succ, i64_w, i32_w]
        rfl
      refine take_ (i := 4) (N := some 31) (v := ?_) (a' := ?_) #[true, true, false, true, true, false, false, false] rfl rfl (take_ofW HT_.out HW_.out (by kernel_rfl)) (fun _ _ _ h => h) (Or.inl ⟨by rfl, ?_⟩) hHeld ?_ ?_
      rotate_left
      · rintro w' ⟨s0, s1⟩
        go_simp
        with_reducible rfl
      rotate_left
      · simp only [Act.put, List.setIfInBounds_toArray, List.set_cons_zero, List.set_cons_succ, i64_w, i32_w]
        rfl
      refine join_ (σ := Value × Nat) 1 #[true, true, true, true, true, true, true, false] (fun s_ => [(29, s_.1), (9, .pointer (some ⟨s_.2, 0, none⟩)), (32, .agg #[s_.1, .int .i64 a0_1])]) (fun s_ w' => (w'.cell? ⟨gb582, 0, none⟩ = some (.slice A0_0 l0_0.length c0_0) ∧ w'.cell? ⟨gb582, 1, none⟩ = some (.int .i64 a0_1)) ∧ (Kd.R k56 56 w' w.heap.size (fun _ => True) s_.1 t586) ∧ (w'.heap[gb582]? = some (.cells #[.slice A0_0 l0_0.length c0_0, .int .i64 a0_1] 24 (0, 0))) ∧ (w'.heap[gb583]? = some (.cells #[.slice none 0 0, .int .i64 0] 24 (0, 0))) ∧ (w'.heap[s_.2]? = some (.cells #[.slice none 0 0, .int .i64 0] 24 (0, 0))) ∧ (w.heap.size ≤ s_.2) ∧ (w.heap.size ≤ s_.2) ∧ (gb582 ≠ s_.2) ∧ (s_.2 ≠ gb582) ∧ (gb583 ≠ s_.2) ∧ (s_.2 ≠ gb583) ∧ (Below w.heap.size w w')) ?_ ?_
      rotate_left
      · intro hCont
        refine two_ (i := 2) (j := 6) (Ni := some 29) (Nj := some 9) #[true, true, true, true, true, false, false, false] #[true, true, false, true, true, false, true, false] rfl rfl rfl rfl (two_of HT_.out (by kernel_rfl)) (by decide) (by decide) (fun K hK => ?_) (fun K hK => ?_)
        · skip
          refine goes_ Try.func38 (by kernel_rfl) rfl #[.slice A0_0 l0_0.length c0_0] (by rfl) rfl rfl (by (try simp only [List.map_toArray, List.map_cons, List.map_nil]); first | done | rfl | (simp only [List.length_drop, List.length_take]; rfl)) ?_
          with_reducible refine (api_Segment_38.calls _ _ l0_0 t586 _ ?side1 ?side2 A12.out).mono ?_
          (case side1 => exact pc_ (Kd.C_below HR0_0.out HB.out))
          (case side2 => exact HC0_0.out)
          rintro e w19 ⟨v587, rfl, ho0, hb⟩
          refine ⟨_, rfl, ?_⟩
          have HO588 := Aside0.mk (Kd.R_lower ho0 (below_size (pb_ HB)))
          replace BK582 := kb_ BK582 hb
          replace BK583 := kb_ BK583 hb
          replace HB := sb_ HB hb
          (try clear hb)
          (try clear hb2)
          (try clear hk)
          (try clear hi)
          (try clear ho0)
          obtain ⟨Ao20, co20, eo20⟩ := Kd.R_slice HO588.out
          (first | subst eo20 | (injection eo20 with f1_ f2_ f3_; have f4_ := f1_.symm; have f5_ := f3_.symm; clear f1_ f2_ f3_; subst f4_; subst f5_))
          refine hK.out _ _ ⟨(blk_cell BK582.out 0).trans rfl, (blk_cell BK582.out 1).trans rfl⟩ (fun hHeld => ?_)
          clear hK K
          refine norm_ (a' := ?_) ?_ ?_
          rotate_left
          · show Act.put _ (some 29) _ = _
            simp only [Act.put, List.setIfInBounds_toArray, List.set_cons_zero, List.set_cons_succ, i64_w, i32_w]
            rfl
          refine pu_ 5 32 HT_ ?_
          refine one_ (i := 6) (N := some 9) #[true, true, true, true, true, true, true, false] rfl rfl (one_of HT_.out (by kernel_rfl)) (by decide) (fun K hK => ?_)
          refine box_step ?hg (N := 9) ?hd (cs := #[.slice none 0 0, .int .i64 0]) (t := 24) ?hr ?_; (case hd => rfl); (case hg => rfl); (case hr => first | (go_simp; done) | (go_simp; rfl))
          intro gb589 hg w21 hbox hb
          replace HO588 := Aside0.mk (Kd.R_below (by (with_reducible repeat (first | apply Kd.R_alloc | apply Kd.R_drewN | apply Kd.R_drew)); exact HO588.out) hb)
          have BK589 := Aside0.mk (hbox)
          have GW589 := gw_ hg HB
          have GE589 := gw_ hg HB
          replace HB := sb_ HB hb
          have NB582_589 := nl_ hg BK582
          have NB589_582 := ng_ hg BK582
          replace BK582 := kb_ BK582 hb
          have NB583_589 := nl_ hg BK583
          have NB589_583 := ng_ hg BK583
          replace BK583 := kb_ BK583 hb
          clear hb hbox hg
          refine hK.out _ _ ⟨(blk_cell BK582.out 0).trans rfl, (blk_cell BK582.out 1).trans rfl⟩ (fun hHeld => ?_)
          clear hK K
          refine norm_ (a' := ?_) ?_ ?_
          rotate_left
          · show Act.put _ (some 9) _ = _
            simp only [Act.put, List.setIfInBounds_toArray, List.set_cons_zero, List.set_cons_succ, i64_w, i32_w]
            rfl
          exact norm_ (by simp only [putAll, Act.put, List.setIfInBounds_toArray, List.set_cons_zero, List.set_cons_succ]) (hCont (.slice Ao20 t586.length co20, gb589) _ ⟨hHeld, (by (with_reducible repeat (first | apply Kd.R_alloc | apply Kd.R_drewN | apply Kd.R_drew)); exact HO588.out), (pk_ BK582), (pk_ BK583), (pk_ BK589), GW589.out, GE589.out, NB582_589.out, NB589_582.out, NB583_589.out, NB589_583.out, (pb_ HB)⟩)
        · skip
          refine box_step ?hg (N := 9) ?hd (cs := #[.slice none 0 0, .int .i64 0]) (t := 24) ?hr ?_; (case hd => rfl); (case hg => rfl); (case hr => first | (go_simp; done) | (go_simp; rfl))
          intro gb589 hg w19 hbox hb
          have BK589 := Aside0.mk (hbox)
          have GW589 := gw_ hg HB
          have GE589 := gw_ hg HB
          replace HB := sb_ HB hb
          have NB582_589 := nl_ hg BK582
          have NB589_582 := ng_ hg BK582
          replace BK582 := kb_ BK582 hb
          have NB583_589 := nl_ hg BK583
          have NB589_583 := ng_ hg BK583
          replace BK583 := kb_ BK583 hb
          clear hb hbox hg
          refine hK.out _ _ ⟨(blk_cell BK582.out 0).trans rfl, (blk_cell BK582.out 1).trans rfl⟩ (fun hHeld => ?_)
          clear hK K
          refine norm_ (a' := ?_) ?_ ?_
          rotate_left
          · show Act.put _ (some 9) _ = _
            simp only [Act.put, List.setIfInBounds_toArray, List.set_cons_zero, List.set_cons_succ, i64_w, i32_w]
            rfl
          refine one_ (i := 2) (N := some 29) #[true, true, true, true, true, false, true, false] rfl rfl (one_of HT_.out (by kernel_rfl)) (by decide) (fun K hK => ?_)
          refine goes_ Try.func38 (by kernel_rfl) rfl #[.slice A0_0 l0_0.length c0_0] (by rfl) rfl rfl (by (try simp only [List.map_toArray, List.map_cons, List.map_nil]); first | done | rfl | (simp only [List.length_drop, List.length_take]; rfl)) ?_
          with_reducible refine (api_Segment_38.calls _ _ l0_0 t586 _ ?side1 ?side2 A12.out).mono ?_
          (case side1 => exact pc_ (Kd.C_below HR0_0.out HB.out))
          (case side2 => exact HC0_0.out)
          rintro e w20 ⟨v587, rfl, ho0, hb⟩
          refine ⟨_, rfl, ?_⟩
          have HO588 := Aside0.mk (Kd.R_lower ho0 (below_size (pb_ HB)))
          replace BK582 := kb_ BK582 hb
          replace BK583 := kb_ BK583 hb
          replace BK589 := kb_ BK589 hb
          replace HB := sb_ HB hb
          (try clear hb)
          (try clear hb2)
          (try clear hk)
          (try clear hi)
          (try clear ho0)
          obtain ⟨Ao21, co21, eo21⟩ := Kd.R_slice HO588.out
          (first | subst eo21 | (injection eo21 with f1_ f2_ f3_; have f4_ := f1_.symm; have f5_ := f3_.symm; clear f1_ f2_ f3_; subst f4_; subst f5_))
          refine hK.out _ _ ⟨(blk_cell BK582.out 0).trans rfl, (blk_cell BK582.out 1).trans rfl⟩ (fun hHeld => ?_)
          clear hK K
          refine norm_ (a' := ?_) ?_ ?_
          rotate_left
          · show Act.put _ (some 29) _ = _
            simp only [Act.put, List.setIfInBounds_toArray, List.set_cons_zero, List.set_cons_succ, i64_w, i32_w]
            rfl
          refine pu_ 5 32 HT_ ?_
          exact norm_ (by simp only [putAll, Act.put, List.setIfInBounds_toArray, List.set_cons_zero, List.set_cons_succ]) (hCont (.slice Ao21 t586.length co21, gb589) _ ⟨hHeld, (by (with_reducible repeat (first | apply Kd.R_alloc | apply Kd.R_drewN | apply Kd.R_drew)); exact HO588.out), (pk_ BK582), (pk_ BK583), (pk_ BK589), GW589.out, GE589.out, NB582_589.out, NB589_582.out, NB583_589.out, NB589_583.out, (pb_ HB)⟩)
      rintro ⟨v587, gb589⟩ w22 ⟨hS_, h0_, h1_, h2_, h3_, h4_, h5_, h6_, h7_, h8_, h9_, h10_⟩
      have n0_ : Aside0 (Kd.R k56 56 w22 w.heap.size (fun _ => True) v587 t586) := ⟨h0_⟩
      have n1_ : Aside0 (w22.heap[gb582]? = some (.cells #[.slice A0_0 l0_0.length c0_0, .int .i64 a0_1] 24 (0, 0))) := ⟨h1_⟩
      have n2_ : Aside0 (w22.heap[gb583]? = some (.cells #[.slice none 0 0, .int .i64 0] 24 (0, 0))) := ⟨h2_⟩
      have n3_ : Aside0 (w22.heap[gb589]? = some (.cells #[.slice none 0 0, .int .i64 0] 24 (0, 0))) := ⟨h3_⟩
      have n4_ : Aside0 (w.heap.size ≤ gb589) := ⟨h4_⟩
      have n5_ : Aside0 (w.heap.size ≤ gb589) := ⟨h5_⟩
      have n6_ : Aside0 (gb582 ≠ gb589) := ⟨h6_⟩
      have n7_ : Aside0 (gb589 ≠ gb582) := ⟨h7_⟩
      have n8_ : Aside0 (gb583 ≠ gb589) := ⟨h8_⟩
      have n9_ : Aside0 (gb589 ≠ gb583) := ⟨h9_⟩
      have n10_ : Aside0 (Below w.heap.size w w22) := ⟨h10_⟩
      clear BK582
      clear BK583
      clear HB
      clear h0_ h1_ h2_ h3_ h4_ h5_ h6_ h7_ h8_ h9_ h10_
      have HO588 := n0_
      have BK582 := n1_
      have BK583 := n2_
      have BK589 := n3_
      have GW589 := n4_
      have GE589 := n5_
      have NB582_589 := n6_
      have NB589_582 := n7_
      have NB583_589 := n8_
      have NB589_583 := n9_
      have HB := n10_
      clear n0_ n1_ n2_ n3_ n4_ n5_ n6_ n7_ n8_ n9_ n10_
      have hHeld : w22.cell? ⟨gb582, 0, none⟩ = some (.slice A0_0 l0_0.length c0_0) ∧ w22.cell? ⟨gb582, 1, none⟩ = some (.int .i64 a0_1) := hS_
      obtain ⟨Ao23, co23, eo23⟩ := Kd.R_slice HO588.out
      (first | subst eo23 | (injection eo23 with f1_ f2_ f3_; have f4_ := f1_.symm; have f5_ := f3_.symm; clear f1_ f2_ f3_; subst f4_; subst f5_))
      refine norm_ (a' := ?_) ?_ ?_
      rotate_left
      · simp only [putAll, Act.put, List.setIfInBounds_toArray, List.set_cons_zero, List.set_cons_succ]
        rfl
      refine one_ (i := 7) (N := none) #[true, true, true, true, true, true, true, true] rfl rfl (one_of HT_.out (by kernel_rfl)) (by decide) (fun K hK => ?_)
      have hs24 : w22.cell? ⟨gb589, 0, none⟩ = some (.slice none 0 0) := (blk_cell BK589.out 0).trans rfl
      have hfs24 := blk_frozen BK589.out 0
      have hns24_0 := NB582_589.out
      have hns24_1 := NB583_589.out
      have hms24_0 := NB589_582.out
      have hms24_1 := NB589_583.out
      have hs25 : w22.cell? ⟨gb589, 1, none⟩ = some (.int .i64 0) := (blk_cell BK589.out 1).trans rfl
      have hfs25 := blk_frozen BK589.out 1
      have hns25_0 := NB582_589.out
      have hns25_1 := NB583_589.out
      have hms25_0 := NB589_582.out
      have hms25_1 := NB589_583.out
      refine skip_ (w1 := ?_) (by rfl) rfl ?_ ?_
      rotate_left
      · go_simp
        rfl
      refine hK.out _ _ ⟨((cell_far (p := ⟨gb589, _, none⟩) NB582_589.out _).trans (((cell_far (p := ⟨gb589, _, none⟩) NB582_589.out _).trans (hHeld.1)))), ((cell_far (p := ⟨gb589, _, none⟩) NB582_589.out _).trans (((cell_far (p := ⟨gb589, _, none⟩) NB582_589.out _).trans (hHeld.2))))⟩ (fun hHeld => ?_)
      clear hK K
      refine done_ (done_of HT_.out (by kernel_rfl)) ?_
      try go_wp2
      go_loopg [35] k (fun kq v35 w' => ∃ (x35_1 : Int) (x584001_1 : Int) (x590000_1 : List (S56)) (x590001_1 : Int) (u590000 : Value), v35 = .int .i64 x35_1 ∧ Aside0 (segment_Applied.l0 kq l1 l1 (l1.length : Int) x35_1 x590000_1 x590001_1 = some (r1, r2, r3, r4)) ∧ Aside0 (kq ≤ k) ∧ Aside0 (Kd.R k56 56 w' w.heap.size (fun _ => True) u590000 x590000_1) ∧ Aside0 (w'.heap[gb582]? = some (.cells #[(.slice A0_0 l0_0.length c0_0), .int .i64 a0_1] 24 (0, 0))) ∧ Aside0 (w'.heap[gb583]? = some (.cells #[(.slice none 0 0), .int .i64 x584001_1] 24 (0, 0))) ∧ Aside0 (w'.heap[gb589]? = some (.cells #[u590000, .int .i64 x590001_1] 24 (0, 0))) ∧ Aside0 (Below w.heap.size w w'))
      case atStart => exact ⟨(0), (0), (t586), (a0_1), (.slice Ao23 t586.length co23), (by first | rfl | (simp; done) | (simp [*]; done)), H', ⟨Nat.le_refl _⟩, ⟨by (with_reducible repeat (first | apply Kd.R_alloc | apply Kd.R_drewN | apply Kd.R_drew)); exact Kd.R_mono (Kd.R_far (p := ⟨gb589, 1, none⟩) (Kd.R_far (p := ⟨gb589, 0, none⟩) (Kd.R_types HO588.out BK589.out (by decide)) (fun _ hk => hk.2) (.slice Ao23 t586.length co23)) (fun _ hk => hk.2) (.int .i64 a0_1)) (fun _ hk => trivial)⟩, ⟨by (with_reducible repeat (first | refine blk_drewN ?_ _ | refine blk_drew ?_ | refine blk_alloc ?_ _)); refine blk_far ?_ NB582_589.out _; (with_reducible repeat (first | refine blk_drewN ?_ _ | refine blk_drew ?_ | refine blk_alloc ?_ _)); refine blk_far ?_ NB582_589.out _; (with_reducible repeat (first | refine blk_drewN ?_ _ | refine blk_drew ?_ | refine blk_alloc ?_ _)); exact BK582.out⟩, ⟨by (with_reducible repeat (first | refine blk_drewN ?_ _ | refine blk_drew ?_ | refine blk_alloc ?_ _)); refine blk_far ?_ NB583_589.out _; (with_reducible repeat (first | refine blk_drewN ?_ _ | refine blk_drew ?_ | refine blk_alloc ?_ _)); refine blk_far ?_ NB583_589.out _; (with_reducible repeat (first | refine blk_drewN ?_ _ | refine blk_drew ?_ | refine blk_alloc ?_ _)); exact BK583.out⟩, ⟨by (with_reducible repeat (first | refine blk_drewN ?_ _ | refine blk_drew ?_ | refine blk_alloc ?_ _)); refine blk_put (cs := #[.slice Ao23 t586.length co23, .int .i64 0]) ?_ 1 _ rfl; (with_reducible repeat (first | refine blk_drewN ?_ _ | refine blk_drew ?_ | refine blk_alloc ?_ _)); refine blk_put (cs := #[.slice none 0 0, .int .i64 0]) ?_ 0 _ rfl; (with_reducible repeat (first | refine blk_drewN ?_ _ | refine blk_drew ?_ | refine blk_alloc ?_ _)); exact BK589.out⟩, ⟨pb_ HB⟩⟩
      case round =>
        clear H'
        try clear c1
        try clear p2
        try clear c3
        try clear c4
        try clear c4b0
        try clear c4b1
        try clear c5
        try clear c5b0
        try clear c5b1
        try clear c8
        try clear c15
        try clear c18
        try clear hcz11_0
        try clear hcz11_1
        try clear hcz16_0
        try clear hcz16_1
        try clear hcz9_0
        try clear hcz9_1
        try clear hfz11_0
        try clear hfz11_1
        try clear hfz16_0
        try clear hfz16_1
        try clear hfz9_0
        try clear hfz9_1
        obtain ⟨x35_1, x584001_1, x590000_1, x590001_1, u590000, rfl, HA, HK1, HO_590000, BK582, BK583, BK589, HB⟩ := hrel
        cases gk with
        | zero => exact absurd HA.out (by simp [segment_Applied.l0])
        | succ k1 =>
          have H := HA.out
          clear HA
          simp only [segment_Applied.l0] at H
          by_cases c26 : x35_1 < (l1.length : Int)
          · rw [if_pos c26] at H
            have c26b0 : decide (x35_1 < (l1.length : Int)) = true := decide_eq_true c26
            clear c26
            by_cases c27 : 0 ≤ x35_1
            · rw [if_pos c27] at H
              have c27b0 : decide (0 ≤ x35_1) = true := decide_eq_true c27
              clear c27
              by_cases c28 : x35_1 < (l1.length : Int)
              · rw [if_pos c28] at H
                have c28b0 : decide (x35_1 < (l1.length : Int)) = true := decide_eq_true c28
                clear c28
                replace H := Option.bind_eq_some_iff.mp H
                obtain ⟨⟨t592, t595, t596⟩, A290, H⟩ := H
                replace H : (if t596 = 0 then (segment_Applied.l0 k1 l1 l1 (l1.length : Int) (wrap64 (x35_1 + 1)) t592 t595) else (some (([] : List (S56)), 0, x35_1, t596))) = some (r1, r2, r3, r4) := H
                have A29 := Aside0.mk A290
                clear A290
                by_cases c30 : t596 = 0
                · rw [if_pos c30] at H
                  have c30b0 : (t596 == 0) = true := beq_iff_eq.mpr c30
                  have c30b1 : (t596 != 0) = false := bne_eq_false_iff_eq.mpr c30
                  clear c30
                  have H' := Aside0.mk H
                  clear H
                  have p590 : 0 ≤ (x35_1 : Int) := ct_
                  have q590 : x35_1 < (l1.length : Int) := ct_
                  obtain ⟨ad590, e590, hx590_0, hx590_1, hx590_2, hx590_3, hx590_4⟩ := at_T66 HR1.out x35_1 p590 q590
                  cases e590
                  replace hx590_0 := (HB.out.cell (World.block_lt_of_cell? w _ hx590_0)).trans hx590_0
                  replace hx590_1 := (HB.out.cell (World.block_lt_of_cell? w _ hx590_1)).trans hx590_1
                  replace hx590_2 := (HB.out.cell (World.block_lt_of_cell? w _ hx590_2)).trans hx590_2
                  replace hx590_3 := (HB.out.cell (World.block_lt_of_cell? w _ hx590_3)).trans hx590_3
                  replace hx590_4 := (HB.out.cell (World.block_lt_of_cell? w _ hx590_4)).trans hx590_4
                  replace p590 := eq_true p590
                  replace q590 := eq_true q590
                  go_wp2_with (first | ((with_reducible refine gate_dst (N := 11) rfl ?_); refine box_event ?hg (N := 11) ?hd (cs := #[.int .i64 0, .int .i64 0, .int .i64 0, .int .i64 0, .string (⟨#[]⟩ : ByteArray)]) (t := 66) ?hr ?_; (case hd => rfl); (case hg => rfl); (case hr => first | (go_simp; done) | (go_simp; rfl)); intro gb591 hg w31 hbox hb; replace HO_590000 := Aside0.mk (Kd.R_below (by (with_reducible repeat (first | apply Kd.R_alloc | apply Kd.R_drewN | apply Kd.R_drew)); exact HO_590000.out) hb); have BK591 := Aside0.mk (hbox); have GW591 := gw_ hg HB; have GE591 := gw_ hg HB; replace HB := sb_ HB hb; have NB582_591 := nl_ hg BK582; have NB591_582 := ng_ hg BK582; replace BK582 := kb_ BK582 hb; have NB583_591 := nl_ hg BK583; have NB591_583 := ng_ hg BK583; replace BK583 := kb_ BK583 hb; have NB589_591 := nl_ hg BK589; have NB591_589 := ng_ hg BK589; replace BK589 := kb_ BK589 hb; clear hb hbox hg; have hnb32 := NB591_582.out; have hnc32 := NB582_591.out; have hnb33 := NB591_583.out; have hnc33 := NB583_591.out; have hnb34 := NB591_589.out; have hnc34 := NB589_591.out; have hcz35_0 := cz_ BK591 0 (.int .i64 0); have hcz35_1 := cz_ BK591 1 (.int .i64 0); have hcz35_2 := cz_ BK591 2 (.int .i64 0); have hcz35_3 := cz_ BK591 3 (.int .i64 0); have hcz35_4 := cz_ BK591 4 (.string (⟨#[]⟩ : ByteArray)); have hfz35_0 := blk_frozen BK591.out 0; have hfz35_1 := blk_frozen BK591.out 1; have hfz35_2 := blk_frozen BK591.out 2; have hfz35_3 := blk_frozen BK591.out 3; have hfz35_4 := blk_frozen BK591.out 4; have hnb36 := NB589_582.out; have hnc36 := NB582_589.out; have hnb37 := NB589_583.out; have hnc37 := NB583_589.out; have hcz38_0 := cz_ BK589 0 (u590000); have hcz38_1 := cz_ BK589 1 (.int .i64 x590001_1); have hfz38_0 := blk_frozen BK589.out 0; have hfz38_1 := blk_frozen BK589.out 1; obtain ⟨Ao39, co39, eo39⟩ := Kd.R_slice HO_590000.out; subst eo39) | ((with_reducible refine gate_callee (f := 52) rfl ?_); refine goesL_ (some 43) rfl rfl Try.func52 (by kernel_rfl) rfl #[.agg #[.slice Ao39 x590000_1.length co39, .int .i64 x590001_1], .agg #[.int .i64 ((rd_T66 l1 x35_1).f0), .int .i64 ((rd_T66 l1 x35_1).f1), .int .i64 ((rd_T66 l1 x35_1).f2), .int .i64 ((rd_T66 l1 x35_1).f3), .string ((rd_T66 l1 x35_1).f4)]] rfl (by (try simp only [List.map_toArray, List.map_cons, List.map_nil]); first | done | rfl | (simp only [List.length_drop, List.length_take]; rfl)) ?_; (with_reducible refine (segment_apply.calls k1 _ _ x590000_1 x590001_1 ((rd_T66 l1 x35_1).f0) ((rd_T66 l1 x35_1).f1) ((rd_T66 l1 x35_1).f2) ((rd_T66 l1 x35_1).f3) ((rd_T66 l1 x35_1).f4) t592 t595 t596 _ ?side1 ?side2 A29.out).mono ?_); (case side1 => refine (Kd.R_reads' (e := 56) (base := w.heap.size) (ok := fun k_ => True) (n := x590000_1.length) (c := co39) ?_).2.2; exact (by (with_reducible repeat (first | apply Kd.R_alloc | apply Kd.R_drewN | apply Kd.R_drew)); exact (Kd.R_mono (Kd.R_far (p := ⟨gb591, 4, none⟩) (Kd.R_far (p := ⟨gb591, 3, none⟩) (Kd.R_far (p := ⟨gb591, 2, none⟩) (Kd.R_far (p := ⟨gb591, 1, none⟩) (Kd.R_far (p := ⟨gb591, 0, none⟩) (Kd.R_types HO_590000.out BK591.out (by decide)) (fun _ hk => hk.2) (.int .i64 ((rd_T66 l1 x35_1).f0))) (fun _ hk => hk.2) (.int .i64 ((rd_T66 l1 x35_1).f1))) (fun _ hk => hk.2) (.int .i64 ((rd_T66 l1 x35_1).f2))) (fun _ hk => hk.2) (.int .i64 ((rd_T66 l1 x35_1).f3))) (fun _ hk => hk.2) (.string ((rd_T66 l1 x35_1).f4))) (fun _ h_ => h_.1)))); (case side2 => exact (Kd.R_reads' HO_590000.out).2.1); rintro e w40 ⟨v593, rfl, ho0, hb⟩; refine ⟨_, rfl, ?_⟩; have HO594 := Aside0.mk (Kd.R_lower (Kd.R_new' ho0 (Kd.R_lt (by (with_reducible repeat (first | apply Kd.R_alloc | apply Kd.R_drewN | apply Kd.R_drew)); exact (Kd.R_mono (Kd.R_far (p := ⟨gb591, 4, none⟩) (Kd.R_far (p := ⟨gb591, 3, none⟩) (Kd.R_far (p := ⟨gb591, 2, none⟩) (Kd.R_far (p := ⟨gb591, 1, none⟩) (Kd.R_far (p := ⟨gb591, 0, none⟩) (Kd.R_types HO_590000.out BK591.out (by decide)) (fun _ hk => hk.2) (.int .i64 ((rd_T66 l1 x35_1).f0))) (fun _ hk => hk.2) (.int .i64 ((rd_T66 l1 x35_1).f1))) (fun _ hk => hk.2) (.int .i64 ((rd_T66 l1 x35_1).f2))) (fun _ hk => hk.2) (.int .i64 ((rd_T66 l1 x35_1).f3))) (fun _ hk => hk.2) (.string ((rd_T66 l1 x35_1).f4))) (fun _ h_ => h_.1))))) (below_size (pb_ HB))); replace HO_590000 := Aside0.mk (Kd.R_elder' (by (with_reducible repeat (first | apply Kd.R_alloc | apply Kd.R_drewN | apply Kd.R_drew)); exact (Kd.R_mono (Kd.R_far (p := ⟨gb591, 4, none⟩) (Kd.R_far (p := ⟨gb591, 3, none⟩) (Kd.R_far (p := ⟨gb591, 2, none⟩) (Kd.R_far (p := ⟨gb591, 1, none⟩) (Kd.R_far (p := ⟨gb591, 0, none⟩) (Kd.R_types HO_590000.out BK591.out (by decide)) (fun _ hk => hk.2) (.int .i64 ((rd_T66 l1 x35_1).f0))) (fun _ hk => hk.2) (.int .i64 ((rd_T66 l1 x35_1).f1))) (fun _ hk => hk.2) (.int .i64 ((rd_T66 l1 x35_1).f2))) (fun _ hk => hk.2) (.int .i64 ((rd_T66 l1 x35_1).f3))) (fun _ hk => hk.2) (.string ((rd_T66 l1 x35_1).f4))) (fun _ h_ => h_.1))) (Kd.R_base ho0) hb); replace BK582 := Aside0.mk (blk_below (g := gb582) (o := .cells #[.slice A0_0 l0_0.length c0_0, .int .i64 a0_1] 24 (0, 0)) (by (with_reducible repeat (first | refine blk_drewN ?_ _ | refine blk_drew ?_ | refine blk_alloc ?_ _)); refine blk_far ?_ NB582_591.out _; (with_reducible repeat (first | refine blk_drewN ?_ _ | refine blk_drew ?_ | refine blk_alloc ?_ _)); refine blk_far ?_ NB582_591.out _; (with_reducible repeat (first | refine blk_drewN ?_ _ | refine blk_drew ?_ | refine blk_alloc ?_ _)); refine blk_far ?_ NB582_591.out _; (with_reducible repeat (first | refine blk_drewN ?_ _ | refine blk_drew ?_ | refine blk_alloc ?_ _)); refine blk_far ?_ NB582_591.out _; (with_reducible repeat (first | refine blk_drewN ?_ _ | refine blk_drew ?_ | refine blk_alloc ?_ _)); refine blk_far ?_ NB582_591.out _; (with_reducible repeat (first | refine blk_drewN ?_ _ | refine blk_drew ?_ | refine blk_alloc ?_ _)); exact BK582.out) hb); replace BK583 := Aside0.mk (blk_below (g := gb583) (o := .cells #[.slice none 0 0, .int .i64 x584001_1] 24 (0, 0)) (by (with_reducible repeat (first | refine blk_drewN ?_ _ | refine blk_drew ?_ | refine blk_alloc ?_ _)); refine blk_far ?_ NB583_591.out _; (with_reducible repeat (first | refine blk_drewN ?_ _ | refine blk_drew ?_ | refine blk_alloc ?_ _)); refine blk_far ?_ NB583_591.out _; (with_reducible repeat (first | refine blk_drewN ?_ _ | refine blk_drew ?_ | refine blk_alloc ?_ _)); refine blk_far ?_ NB583_591.out _; (with_reducible repeat (first | refine blk_drewN ?_ _ | refine blk_drew ?_ | refine blk_alloc ?_ _)); refine blk_far ?_ NB583_591.out _; (with_reducible repeat (first | refine blk_drewN ?_ _ | refine blk_drew ?_ | refine blk_alloc ?_ _)); refine blk_far ?_ NB583_591.out _; (with_reducible repeat (first | refine blk_drewN ?_ _ | refine blk_drew ?_ | refine blk_alloc ?_ _)); exact BK583.out) hb); replace BK589 := Aside0.mk (blk_below (g := gb589) (o := .cells #[.slice Ao39 x590000_1.length co39, .int .i64 x590001_1] 24 (0, 0)) (by (with_reducible repeat (first | refine blk_drewN ?_ _ | refine blk_drew ?_ | refine blk_alloc ?_ _)); refine blk_far ?_ NB589_591.out _; (with_reducible repeat (first | refine blk_drewN ?_ _ | refine blk_drew ?_ | refine blk_alloc ?_ _)); refine blk_far ?_ NB589_591.out _; (with_reducible repeat (first | refine blk_drewN ?_ _ | refine blk_drew ?_ | refine blk_alloc ?_ _)); refine blk_far ?_ NB589_591.out _; (with_reducible repeat (first | refine blk_drewN ?_ _ | refine blk_drew ?_ | refine blk_alloc ?_ _)); refine blk_far ?_ NB589_591.out _; (with_reducible repeat (first | refine blk_drewN ?_ _ | refine blk_drew ?_ | refine blk_alloc ?_ _)); refine blk_far ?_ NB589_591.out _; (with_reducible repeat (first | refine blk_drewN ?_ _ | refine blk_drew ?_ | refine blk_alloc ?_ _)); exact BK589.out) hb); replace BK591 := Aside0.mk (blk_below (g := gb591) (o := .cells #[.int .i64 ((rd_T66 l1 x35_1).f0), .int .i64 ((rd_T66 l1 x35_1).f1), .int .i64 ((rd_T66 l1 x35_1).f2), .int .i64 ((rd_T66 l1 x35_1).f3), .string ((rd_T66 l1 x35_1).f4)] 66 (0, 0)) (by (with_reducible repeat (first | refine blk_drewN ?_ _ | refine blk_drew ?_ | refine blk_alloc ?_ _)); refine blk_put (cs := #[.int .i64 ((rd_T66 l1 x35_1).f0), .int .i64 ((rd_T66 l1 x35_1).f1), .int .i64 ((rd_T66 l1 x35_1).f2), .int .i64 ((rd_T66 l1 x35_1).f3), .string (⟨#[]⟩ : ByteArray)]) ?_ 4 _ rfl; (with_reducible repeat (first | refine blk_drewN ?_ _ | refine blk_drew ?_ | refine blk_alloc ?_ _)); refine blk_put (cs := #[.int .i64 ((rd_T66 l1 x35_1).f0), .int .i64 ((rd_T66 l1 x35_1).f1), .int .i64 ((rd_T66 l1 x35_1).f2), .int .i64 0, .string (⟨#[]⟩ : ByteArray)]) ?_ 3 _ rfl; (with_reducible repeat (first | refine blk_drewN ?_ _ | refine blk_drew ?_ | refine blk_alloc ?_ _)); refine blk_put (cs := #[.int .i64 ((rd_T66 l1 x35_1).f0), .int .i64 ((rd_T66 l1 x35_1).f1), .int .i64 0, .int .i64 0, .string (⟨#[]⟩ : ByteArray)]) ?_ 2 _ rfl; (with_reducible repeat (first | refine blk_drewN ?_ _ | refine blk_drew ?_ | refine blk_alloc ?_ _)); refine blk_put (cs := #[.int .i64 ((rd_T66 l1 x35_1).f0), .int .i64 0, .int .i64 0, .int .i64 0, .string (⟨#[]⟩ : ByteArray)]) ?_ 1 _ rfl; (with_reducible repeat (first | refine blk_drewN ?_ _ | refine blk_drew ?_ | refine blk_alloc ?_ _)); refine blk_put (cs := #[.int .i64 0, .int .i64 0, .int .i64 0, .int .i64 0, .string (⟨#[]⟩ : ByteArray)]) ?_ 0 _ rfl; (with_reducible repeat (first | refine blk_drewN ?_ _ | refine blk_drew ?_ | refine blk_alloc ?_ _)); exact BK591.out) hb); replace HB := sb_ HB hb; (try clear hb); (try clear hb2); (try clear hk); (try clear hi); (try clear ho0)) | ((with_reducible refine gate_dst (N := 12) rfl ?_); refine box_event ?hg (N := 12) ?hd (cs := #[.slice none 0 0, .int .i64 0]) (t := 24) ?hr ?_; (case hd => rfl); (case hg => rfl); (case hr => first | (go_simp; done) | (go_simp; rfl)); intro gb597 hg w41 hbox hb; replace HO_590000 := Aside0.mk (Kd.R_below (by (with_reducible repeat (first | apply Kd.R_alloc | apply Kd.R_drewN | apply Kd.R_drew)); exact HO_590000.out) hb); replace HO594 := Aside0.mk (Kd.R_below (by (with_reducible repeat (first | apply Kd.R_alloc | apply Kd.R_drewN | apply Kd.R_drew)); exact HO594.out) hb); have BK597 := Aside0.mk (hbox); have GW597 := gw_ hg HB; have GE597 := gw_ hg HB; replace HB := sb_ HB hb; have NB582_597 := nl_ hg BK582; have NB597_582 := ng_ hg BK582; replace BK582 := kb_ BK582 hb; have NB583_597 := nl_ hg BK583; have NB597_583 := ng_ hg BK583; replace BK583 := kb_ BK583 hb; have NB589_597 := nl_ hg BK589; have NB597_589 := ng_ hg BK589; replace BK589 := kb_ BK589 hb; have NB591_597 := nl_ hg BK591; have NB597_591 := ng_ hg BK591; replace BK591 := kb_ BK591 hb; clear hb hbox hg; obtain ⟨Ao42, co42, eo42⟩ := Kd.R_slice HO594.out; subst eo42; have hnb43 := NB597_582.out; have hnc43 := NB582_597.out; have hnb44 := NB597_583.out; have hnc44 := NB583_597.out; have hnb45 := NB597_589.out; have hnc45 := NB589_597.out; have hnb46 := NB597_591.out; have hnc46 := NB591_597.out; have hcz47_0 := cz_ BK597 0 (.slice none 0 0); have hcz47_1 := cz_ BK597 1 (.int .i64 0); have hfz47_0 := blk_frozen BK597.out 0; have hfz47_1 := blk_frozen BK597.out 1; have hcz48_0 := cz_ BK589 0 (.slice Ao39 x590000_1.length co39); have hcz48_1 := cz_ BK589 1 (.int .i64 x590001_1); have hfz48_0 := blk_frozen BK589.out 0; have hfz48_1 := blk_frozen BK589.out 1))
                  go_roundg k1
                  case measure => have := HK1.out; omega
                  case rel => exact ⟨(wrap64 (x35_1 + 1)), (x584001_1), (t592), (t595), (.slice Ao42 t592.length co42), (by first | rfl | (simp; done) | (simp [*]; done)), H', ⟨by have := HK1.out; omega⟩, ⟨by (with_reducible repeat (first | apply Kd.R_alloc | apply Kd.R_drewN | apply Kd.R_drew)); exact Kd.R_mono (Kd.R_far (p := ⟨gb589, 1, none⟩) (Kd.R_far (p := ⟨gb589, 0, none⟩) (Kd.R_far (p := ⟨gb597, 1, none⟩) (Kd.R_far (p := ⟨gb597, 0, none⟩) (Kd.R_types (Kd.R_types HO594.out BK597.out (by decide)) BK589.out (by decide)) (fun _ hk => hk.1.2) (.slice Ao42 t592.length co42)) (fun _ hk => hk.1.2) (.int .i64 t595)) (fun _ hk => hk.2) (.slice Ao42 t592.length co42)) (fun _ hk => hk.2) (.int .i64 t595)) (fun _ hk => trivial)⟩, ⟨by (with_reducible repeat (first | refine blk_drewN ?_ _ | refine blk_drew ?_ | refine blk_alloc ?_ _)); refine blk_far ?_ NB582_589.out _; (with_reducible repeat (first | refine blk_drewN ?_ _ | refine blk_drew ?_ | refine blk_alloc ?_ _)); refine blk_far ?_ NB582_589.out _; (with_reducible repeat (first | refine blk_drewN ?_ _ | refine blk_drew ?_ | refine blk_alloc ?_ _)); refine blk_far ?_ NB582_597.out _; (with_reducible repeat (first | refine blk_drewN ?_ _ | refine blk_drew ?_ | refine blk_alloc ?_ _)); refine blk_far ?_ NB582_597.out _; (with_reducible repeat (first | refine blk_drewN ?_ _ | refine blk_drew ?_ | refine blk_alloc ?_ _)); exact BK582.out⟩, ⟨by (with_reducible repeat (first | refine blk_drewN ?_ _ | refine blk_drew ?_ | refine blk_alloc ?_ _)); refine blk_far ?_ NB583_589.out _; (with_reducible repeat (first | refine blk_drewN ?_ _ | refine blk_drew ?_ | refine blk_alloc ?_ _)); refine blk_far ?_ NB583_589.out _; (with_reducible repeat (first | refine blk_drewN ?_ _ | refine blk_drew ?_ | refine blk_alloc ?_ _)); refine blk_far ?_ NB583_597.out _; (with_reducible repeat (first | refine blk_drewN ?_ _ | refine blk_drew ?_ | refine blk_alloc ?_ _)); refine blk_far ?_ NB583_597.out _; (with_reducible repeat (first | refine blk_drewN ?_ _ | refine blk_drew ?_ | refine blk_alloc ?_ _)); exact BK583.out⟩, ⟨by (with_reducible repeat (first | refine blk_drewN ?_ _ | refine blk_drew ?_ | refine blk_alloc ?_ _)); refine blk_put (cs := #[.slice Ao42 t592.length co42, .int .i64 x590001_1]) ?_ 1 _ rfl; (with_reducible repeat (first | refine blk_drewN ?_ _ | refine blk_drew ?_ | refine blk_alloc ?_ _)); refine blk_put (cs := #[.slice Ao39 x590000_1.length co39, .int .i64 x590001_1]) ?_ 0 _ rfl; (with_reducible repeat (first | refine blk_drewN ?_ _ | refine blk_drew ?_ | refine blk_alloc ?_ _)); refine blk_far ?_ NB589_597.out _; (with_reducible repeat (first | refine blk_drewN ?_ _ | refine blk_drew ?_ | refine blk_alloc ?_ _)); refine blk_far ?_ NB589_597.out _; (with_reducible repeat (first | refine blk_drewN ?_ _ | refine blk_drew ?_ | refine blk_alloc ?_ _)); exact BK589.out⟩, ⟨pb_ HB⟩⟩
                · rw [if_neg c30] at H
                  have c30b0 : (t596 == 0) = false := beq_eq_false_iff_ne.mpr c30
                  have c30b1 : (t596 != 0) = true := bne_iff_ne.mpr c30
                  simp only [Option.some.injEq, Prod.mk.injEq] at H
                  obtain ⟨rfl, rfl, rfl, rfl⟩ := H
                  have p590 : 0 ≤ (x35_1 : Int) := ct_
                  have q590 : x35_1 < (l1.length : Int) := ct_
                  obtain ⟨ad590, e590, hx590_0, hx590_1, hx590_2, hx590_3, hx590_4⟩ := at_T66 HR1.out x35_1 p590 q590
                  cases e590
                  replace hx590_0 := (HB.out.cell (World.block_lt_of_cell? w _ hx590_0)).trans hx590_0
                  replace hx590_1 := (HB.out.cell (World.block_lt_of_cell? w _ hx590_1)).trans hx590_1
                  replace hx590_2 := (HB.out.cell (World.block_lt_of_cell? w _ hx590_2)).trans hx590_2
                  replace hx590_3 := (HB.out.cell (World.block_lt_of_cell? w _ hx590_3)).trans hx590_3
                  replace hx590_4 := (HB.out.cell (World.block_lt_of_cell? w _ hx590_4)).trans hx590_4
                  replace p590 := eq_true p590
                  replace q590 := eq_true q590
                  go_wp2_with (first | ((with_reducible refine gate_dst (N := 11) rfl ?_); refine box_event ?hg (N := 11) ?hd (cs := #[.int .i64 0, .int .i64 0, .int .i64 0, .int .i64 0, .string (⟨#[]⟩ : ByteArray)]) (t := 66) ?hr ?_; (case hd => rfl); (case hg => rfl); (case hr => first | (go_simp; done) | (go_simp; rfl)); intro gb591 hg w49 hbox hb; replace HO_590000 := Aside0.mk (Kd.R_below (by (with_reducible repeat (first | apply Kd.R_alloc | apply Kd.R_drewN | apply Kd.R_drew)); exact HO_590000.out) hb); have BK591 := Aside0.mk (hbox); have GW591 := gw_ hg HB; have GE591 := gw_ hg HB; replace HB := sb_ HB hb; have NB582_591 := nl_ hg BK582; have NB591_582 := ng_ hg BK582; replace BK582 := kb_ BK582 hb; have NB583_591 := nl_ hg BK583; have NB591_583 := ng_ hg BK583; replace BK583 := kb_ BK583 hb; have NB589_591 := nl_ hg BK589; have NB591_589 := ng_ hg BK589; replace BK589 := kb_ BK589 hb; clear hb hbox hg; have hnb50 := NB591_582.out; have hnc50 := NB582_591.out; have hnb51 := NB591_583.out; have hnc51 := NB583_591.out; have hnb52 := NB591_589.out; have hnc52 := NB589_591.out; have hcz53_0 := cz_ BK591 0 (.int .i64 0); have hcz53_1 := cz_ BK591 1 (.int .i64 0); have hcz53_2 := cz_ BK591 2 (.int .i64 0); have hcz53_3 := cz_ BK591 3 (.int .i64 0); have hcz53_4 := cz_ BK591 4 (.string (⟨#[]⟩ : ByteArray)); have hfz53_0 := blk_frozen BK591.out 0; have hfz53_1 := blk_frozen BK591.out 1; have hfz53_2 := blk_frozen BK591.out 2; have hfz53_3 := blk_frozen BK591.out 3; have hfz53_4 := blk_frozen BK591.out 4; have hnb54 := NB589_582.out; have hnc54 := NB582_589.out; have hnb55 := NB589_583.out; have hnc55 := NB583_589.out; have hcz56_0 := cz_ BK589 0 (u590000); have hcz56_1 := cz_ BK589 1 (.int .i64 x590001_1); have hfz56_0 := blk_frozen BK589.out 0; have hfz56_1 := blk_frozen BK589.out 1; obtain ⟨Ao57, co57, eo57⟩ := Kd.R_slice HO_590000.out; subst eo57) | ((with_reducible refine gate_callee (f := 52) rfl ?_); refine goesL_ (some 43) rfl rfl Try.func52 (by kernel_rfl) rfl #[.agg #[.slice Ao57 x590000_1.length co57, .int .i64 x590001_1], .agg #[.int .i64 ((rd_T66 l1 x35_1).f0), .int .i64 ((rd_T66 l1 x35_1).f1), .int .i64 ((rd_T66 l1 x35_1).f2), .int .i64 ((rd_T66 l1 x35_1).f3), .string ((rd_T66 l1 x35_1).f4)]] rfl (by (try simp only [List.map_toArray, List.map_cons, List.map_nil]); first | done | rfl | (simp only [List.length_drop, List.length_take]; rfl)) ?_; (with_reducible refine (segment_apply.calls k1 _ _ x590000_1 x590001_1 ((rd_T66 l1 x35_1).f0) ((rd_T66 l1 x35_1).f1) ((rd_T66 l1 x35_1).f2) ((rd_T66 l1 x35_1).f3) ((rd_T66 l1 x35_1).f4) t592 t595 t596 _ ?side1 ?side2 A29.out).mono ?_); (case side1 => refine (Kd.R_reads' (e := 56) (base := w.heap.size) (ok := fun k_ => True) (n := x590000_1.length) (c := co57) ?_).2.2; exact (by (with_reducible repeat (first | apply Kd.R_alloc | apply Kd.R_drewN | apply Kd.R_drew)); exact (Kd.R_mono (Kd.R_far (p := ⟨gb591, 4, none⟩) (Kd.R_far (p := ⟨gb591, 3, none⟩) (Kd.R_far (p := ⟨gb591, 2, none⟩) (Kd.R_far (p := ⟨gb591, 1, none⟩) (Kd.R_far (p := ⟨gb591, 0, none⟩) (Kd.R_types HO_590000.out BK591.out (by decide)) (fun _ hk => hk.2) (.int .i64 ((rd_T66 l1 x35_1).f0))) (fun _ hk => hk.2) (.int .i64 ((rd_T66 l1 x35_1).f1))) (fun _ hk => hk.2) (.int .i64 ((rd_T66 l1 x35_1).f2))) (fun _ hk => hk.2) (.int .i64 ((rd_T66 l1 x35_1).f3))) (fun _ hk => hk.2) (.string ((rd_T66 l1 x35_1).f4))) (fun _ h_ => h_.1)))); (case side2 => exact (Kd.R_reads' HO_590000.out).2.1); rintro e w58 ⟨v593, rfl, ho0, hb⟩; refine ⟨_, rfl, ?_⟩; have HO594 := Aside0.mk (Kd.R_lower (Kd.R_new' ho0 (Kd.R_lt (by (with_reducible repeat (first | apply Kd.R_alloc | apply Kd.R_drewN | apply Kd.R_drew)); exact (Kd.R_mono (Kd.R_far (p := ⟨gb591, 4, none⟩) (Kd.R_far (p := ⟨gb591, 3, none⟩) (Kd.R_far (p := ⟨gb591, 2, none⟩) (Kd.R_far (p := ⟨gb591, 1, none⟩) (Kd.R_far (p := ⟨gb591, 0, none⟩) (Kd.R_types HO_590000.out BK591.out (by decide)) (fun _ hk => hk.2) (.int .i64 ((rd_T66 l1 x35_1).f0))) (fun _ hk => hk.2) (.int .i64 ((rd_T66 l1 x35_1).f1))) (fun _ hk => hk.2) (.int .i64 ((rd_T66 l1 x35_1).f2))) (fun _ hk => hk.2) (.int .i64 ((rd_T66 l1 x35_1).f3))) (fun _ hk => hk.2) (.string ((rd_T66 l1 x35_1).f4))) (fun _ h_ => h_.1))))) (below_size (pb_ HB))); replace HO_590000 := Aside0.mk (Kd.R_elder' (by (with_reducible repeat (first | apply Kd.R_alloc | apply Kd.R_drewN | apply Kd.R_drew)); exact (Kd.R_mono (Kd.R_far (p := ⟨gb591, 4, none⟩) (Kd.R_far (p := ⟨gb591, 3, none⟩) (Kd.R_far (p := ⟨gb591, 2, none⟩) (Kd.R_far (p := ⟨gb591, 1, none⟩) (Kd.R_far (p := ⟨gb591, 0, none⟩) (Kd.R_types HO_590000.out BK591.out (by decide)) (fun _ hk => hk.2) (.int .i64 ((rd_T66 l1 x35_1).f0))) (fun _ hk => hk.2) (.int .i64 ((rd_T66 l1 x35_1).f1))) (fun _ hk => hk.2) (.int .i64 ((rd_T66 l1 x35_1).f2))) (fun _ hk => hk.2) (.int .i64 ((rd_T66 l1 x35_1).f3))) (fun _ hk => hk.2) (.string ((rd_T66 l1 x35_1).f4))) (fun _ h_ => h_.1))) (Kd.R_base ho0) hb); replace BK582 := Aside0.mk (blk_below (g := gb582) (o := .cells #[.slice A0_0 l0_0.length c0_0, .int .i64 a0_1] 24 (0, 0)) (by (with_reducible repeat (first | refine blk_drewN ?_ _ | refine blk_drew ?_ | refine blk_alloc ?_ _)); refine blk_far ?_ NB582_591.out _; (with_reducible repeat (first | refine blk_drewN ?_ _ | refine blk_drew ?_ | refine blk_alloc ?_ _)); refine blk_far ?_ NB582_591.out _; (with_reducible repeat (first | refine blk_drewN ?_ _ | refine blk_drew ?_ | refine blk_alloc ?_ _)); refine blk_far ?_ NB582_591.out _; (with_reducible repeat (first | refine blk_drewN ?_ _ | refine blk_drew ?_ | refine blk_alloc ?_ _)); refine blk_far ?_ NB582_591.out _; (with_reducible repeat (first | refine blk_drewN ?_ _ | refine blk_drew ?_ | refine blk_alloc ?_ _)); refine blk_far ?_ NB582_591.out _; (with_reducible repeat (first | refine blk_drewN ?_ _ | refine blk_drew ?_ | refine blk_alloc ?_ _)); exact BK582.out) hb); replace BK583 := Aside0.mk (blk_below (g := gb583) (o := .cells #[.slice none 0 0, .int .i64 x584001_1] 24 (0, 0)) (by (with_reducible repeat (first | refine blk_drewN ?_ _ | refine blk_drew ?_ | refine blk_alloc ?_ _)); refine blk_far ?_ NB583_591.out _; (with_reducible repeat (first | refine blk_drewN ?_ _ | refine blk_drew ?_ | refine blk_alloc ?_ _)); refine blk_far ?_ NB583_591.out _; (with_reducible repeat (first | refine blk_drewN ?_ _ | refine blk_drew ?_ | refine blk_alloc ?_ _)); refine blk_far ?_ NB583_591.out _; (with_reducible repeat (first | refine blk_drewN ?_ _ | refine blk_drew ?_ | refine blk_alloc ?_ _)); refine blk_far ?_ NB583_591.out _; (with_reducible repeat (first | refine blk_drewN ?_ _ | refine blk_drew ?_ | refine blk_alloc ?_ _)); refine blk_far ?_ NB583_591.out _; (with_reducible repeat (first | refine blk_drewN ?_ _ | refine blk_drew ?_ | refine blk_alloc ?_ _)); exact BK583.out) hb); replace BK589 := Aside0.mk (blk_below (g := gb589) (o := .cells #[.slice Ao57 x590000_1.length co57, .int .i64 x590001_1] 24 (0, 0)) (by (with_reducible repeat (first | refine blk_drewN ?_ _ | refine blk_drew ?_ | refine blk_alloc ?_ _)); refine blk_far ?_ NB589_591.out _; (with_reducible repeat (first | refine blk_drewN ?_ _ | refine blk_drew ?_ | refine blk_alloc ?_ _)); refine blk_far ?_ NB589_591.out _; (with_reducible repeat (first | refine blk_drewN ?_ _ | refine blk_drew ?_ | refine blk_alloc ?_ _)); refine blk_far ?_ NB589_591.out _; (with_reducible repeat (first | refine blk_drewN ?_ _ | refine blk_drew ?_ | refine blk_alloc ?_ _)); refine blk_far ?_ NB589_591.out _; (with_reducible repeat (first | refine blk_drewN ?_ _ | refine blk_drew ?_ | refine blk_alloc ?_ _)); refine blk_far ?_ NB589_591.out _; (with_reducible repeat (first | refine blk_drewN ?_ _ | refine blk_drew ?_ | refine blk_alloc ?_ _)); exact BK589.out) hb); replace BK591 := Aside0.mk (blk_below (g := gb591) (o := .cells #[.int .i64 ((rd_T66 l1 x35_1).f0), .int .i64 ((rd_T66 l1 x35_1).f1), .int .i64 ((rd_T66 l1 x35_1).f2), .int .i64 ((rd_T66 l1 x35_1).f3), .string ((rd_T66 l1 x35_1).f4)] 66 (0, 0)) (by (with_reducible repeat (first | refine blk_drewN ?_ _ | refine blk_drew ?_ | refine blk_alloc ?_ _)); refine blk_put (cs := #[.int .i64 ((rd_T66 l1 x35_1).f0), .int .i64 ((rd_T66 l1 x35_1).f1), .int .i64 ((rd_T66 l1 x35_1).f2), .int .i64 ((rd_T66 l1 x35_1).f3), .string (⟨#[]⟩ : ByteArray)]) ?_ 4 _ rfl; (with_reducible repeat (first | refine blk_drewN ?_ _ | refine blk_drew ?_ | refine blk_alloc ?_ _)); refine blk_put (cs := #[.int .i64 ((rd_T66 l1 x35_1).f0), .int .i64 ((rd_T66 l1 x35_1).f1), .int .i64 ((rd_T66 l1 x35_1).f2), .int .i64 0, .string (⟨#[]⟩ : ByteArray)]) ?_ 3 _ rfl; (with_reducible repeat (first | refine blk_drewN ?_ _ | refine blk_drew ?_ | refine blk_alloc ?_ _)); refine blk_put (cs := #[.int .i64 ((rd_T66 l1 x35_1).f0), .int .i64 ((rd_T66 l1 x35_1).f1), .int .i64 0, .int .i64 0, .string (⟨#[]⟩ : ByteArray)]) ?_ 2 _ rfl; (with_reducible repeat (first | refine blk_drewN ?_ _ | refine blk_drew ?_ | refine blk_alloc ?_ _)); refine blk_put (cs := #[.int .i64 ((rd_T66 l1 x35_1).f0), .int .i64 0, .int .i64 0, .int .i64 0, .string (⟨#[]⟩ : ByteArray)]) ?_ 1 _ rfl; (with_reducible repeat (first | refine blk_drewN ?_ _ | refine blk_drew ?_ | refine blk_alloc ?_ _)); refine blk_put (cs := #[.int .i64 0, .int .i64 0, .int .i64 0, .int .i64 0, .string (⟨#[]⟩ : ByteArray)]) ?_ 0 _ rfl; (with_reducible repeat (first | refine blk_drewN ?_ _ | refine blk_drew ?_ | refine blk_alloc ?_ _)); exact BK591.out) hb); replace HB := sb_ HB hb; (try clear hb); (try clear hb2); (try clear hk); (try clear hi); (try clear ho0)) | ((with_reducible refine gate_dst (N := 12) rfl ?_); refine box_event ?hg (N := 12) ?hd (cs := #[.slice none 0 0, .int .i64 0]) (t := 24) ?hr ?_; (case hd => rfl); (case hg => rfl); (case hr => first | (go_simp; done) | (go_simp; rfl)); intro gb597 hg w59 hbox hb; replace HO_590000 := Aside0.mk (Kd.R_below (by (with_reducible repeat (first | apply Kd.R_alloc | apply Kd.R_drewN | apply Kd.R_drew)); exact HO_590000.out) hb); replace HO594 := Aside0.mk (Kd.R_below (by (with_reducible repeat (first | apply Kd.R_alloc | apply Kd.R_drewN | apply Kd.R_drew)); exact HO594.out) hb); have BK597 := Aside0.mk (hbox); have GW597 := gw_ hg HB; have GE597 := gw_ hg HB; replace HB := sb_ HB hb; have NB582_597 := nl_ hg BK582; have NB597_582 := ng_ hg BK582; replace BK582 := kb_ BK582 hb; have NB583_597 := nl_ hg BK583; have NB597_583 := ng_ hg BK583; replace BK583 := kb_ BK583 hb; have NB589_597 := nl_ hg BK589; have NB597_589 := ng_ hg BK589; replace BK589 := kb_ BK589 hb; have NB591_597 := nl_ hg BK591; have NB597_591 := ng_ hg BK591; replace BK591 := kb_ BK591 hb; clear hb hbox hg; obtain ⟨Ao60, co60, eo60⟩ := Kd.R_slice HO594.out; subst eo60; have hnb61 := NB597_582.out; have hnc61 := NB582_597.out; have hnb62 := NB597_583.out; have hnc62 := NB583_597.out; have hnb63 := NB597_589.out; have hnc63 := NB589_597.out; have hnb64 := NB597_591.out; have hnc64 := NB591_597.out; have hcz65_0 := cz_ BK597 0 (.slice none 0 0); have hcz65_1 := cz_ BK597 1 (.int .i64 0); have hfz65_0 := blk_frozen BK597.out 0; have hfz65_1 := blk_frozen BK597.out 1; have hnb66 := NB583_582.out; have hnc66 := NB582_583.out; have hcz67_0 := cz_ BK583 0 (.slice none 0 0); have hcz67_1 := cz_ BK583 1 (.int .i64 x584001_1); have hfz67_0 := blk_frozen BK583.out 0; have hfz67_1 := blk_frozen BK583.out 1))
                  refine bodyPost_ret (results_ctt rfl _ _ gb583 24 #[.slice none 0 0, .int .i64 0] (0, 0) _ rfl (by (with_reducible repeat (first | refine blk_drewN ?_ _ | refine blk_drew ?_ | refine blk_alloc ?_ _)); refine blk_put (cs := #[.slice none 0 0, .int .i64 x584001_1]) ?_ 1 _ rfl; (with_reducible repeat (first | refine blk_drewN ?_ _ | refine blk_drew ?_ | refine blk_alloc ?_ _)); refine blk_put (cs := #[.slice none 0 0, .int .i64 x584001_1]) ?_ 0 _ rfl; (with_reducible repeat (first | refine blk_drewN ?_ _ | refine blk_drew ?_ | refine blk_alloc ?_ _)); refine blk_far ?_ NB583_597.out _; (with_reducible repeat (first | refine blk_drewN ?_ _ | refine blk_drew ?_ | refine blk_alloc ?_ _)); refine blk_far ?_ NB583_597.out _; (with_reducible repeat (first | refine blk_drewN ?_ _ | refine blk_drew ?_ | refine blk_alloc ?_ _)); exact BK583.out) Try.underlying24 rfl (by kernel_rfl)) rfl ?_
                  exact ⟨_, er_, by first | exact Kd.R_nil _ _ _ _ _ | exact Kd.N_nil _ _ _ _ _ | exact Kd.V_nil _ _ _ _ _ | exact Kd.Q_nil _ _ _ _ _ | exact Kd.S_nil _ _ _ _ _, pb_ HB⟩
              · rw [if_neg c28] at H
                exact absurd H (by simp)
            · rw [if_neg c27] at H
              exact absurd H (by simp)
          · rw [if_neg c26] at H
            have c26b0 : decide (x35_1 < (l1.length : Int)) = false := decide_eq_false c26
            clear c26
            simp only [Option.some.injEq, Prod.mk.injEq] at H
            obtain ⟨rfl, rfl, rfl, rfl⟩ := H
            have hnb68 := NB589_582.out
            have hnc68 := NB582_589.out
            have hnb69 := NB589_583.out
            have hnc69 := NB583_589.out
            have hcz70_0 := cz_ BK589 0 (u590000)
            have hcz70_1 := cz_ BK589 1 (.int .i64 x590001_1)
            have hfz70_0 := blk_frozen BK589.out 0
            have hfz70_1 := blk_frozen BK589.out 1
            obtain ⟨Ao71, co71, eo71⟩ := Kd.R_slice HO_590000.out
            subst eo71
            have hnb72 := NB583_582.out
            have hnc72 := NB582_583.out
            have hcz73_0 := cz_ BK583 0 (.slice none 0 0)
            have hcz73_1 := cz_ BK583 1 (.int .i64 x584001_1)
            have hfz73_0 := blk_frozen BK583.out 0
            have hfz73_1 := blk_frozen BK583.out 1
            go_wp2
            refine bodyPost_ret (results_ctt rfl _ _ gb583 24 #[.slice Ao71 x590000_1.length co71, .int .i64 x590001_1] (0, 0) _ rfl (by (with_reducible repeat (first | refine blk_drewN ?_ _ | refine blk_drew ?_ | refine blk_alloc ?_ _)); refine blk_put (cs := #[.slice Ao71 x590000_1.length co71, .int .i64 x584001_1]) ?_ 1 _ rfl; (with_reducible repeat (first | refine blk_drewN ?_ _ | refine blk_drew ?_ | refine blk_alloc ?_ _)); refine blk_put (cs := #[.slice none 0 0, .int .i64 x584001_1]) ?_ 0 _ rfl; (with_reducible repeat (first | refine blk_drewN ?_ _ | refine blk_drew ?_ | refine blk_alloc ?_ _)); exact BK583.out) Try.underlying24 rfl (by kernel_rfl)) rfl ?_
            exact ⟨_, er_, by (with_reducible repeat (first | apply Kd.R_alloc | apply Kd.R_drewN | apply Kd.R_drew)); exact Kd.R_mono (Kd.R_far (p := ⟨gb583, 1, none⟩) (Kd.R_far (p := ⟨gb583, 0, none⟩) (Kd.R_types HO_590000.out BK583.out (by decide)) (fun _ hk => hk.2) (.slice Ao71 x590000_1.length co71)) (fun _ hk => hk.2) (.int .i64 x590001_1)) (fun _ hk => trivial), pb_ HB⟩
  · rw [if_neg c4] at H
    have c4b0 : (t585 == 0) = false := beq_eq_false_iff_ne.mpr c4
    have c4b1 : (t585 != 0) = true := bne_iff_ne.mpr c4
    simp only [Option.some.injEq, Prod.mk.injEq] at H
    obtain ⟨rfl, rfl, rfl, rfl⟩ := H
    go_enter Try.func32, Try.ntmps32
    go_wp2_with (first | ((with_reducible refine gate_dst (N := 2) rfl ?_); refine box_event ?hg (N := 2) ?hd (cs := #[.slice A0_0 l0_0.length c0_0, .int .i64 a0_1]) (t := 24) ?hr ?_; (case hd => rfl); (case hg => rfl); (case hr => first | (go_simp; done) | (go_simp; rfl)); intro gb582 hg w74 hbox hb; have BK582 := Aside0.mk (hbox); have GW582 := gw_ hg HB; have GE582 := gw_ hg HB; replace HB := sb_ HB hb; clear hb hbox hg) | ((with_reducible refine gate_dst (N := 4) rfl ?_); refine box_event ?hg (N := 4) ?hd (cs := #[.slice none 0 0, .int .i64 0]) (t := 24) ?hr ?_; (case hd => rfl); (case hg => rfl); (case hr => first | (go_simp; done) | (go_simp; rfl)); intro gb583 hg w75 hbox hb; have BK583 := Aside0.mk (hbox); have GW583 := gw_ hg HB; have GE583 := gw_ hg HB; replace HB := sb_ HB hb; have NB582_583 := nl_ hg BK582; have NB583_582 := ng_ hg BK582; replace BK582 := kb_ BK582 hb; clear hb hbox hg; have hnb76 := NB582_583.out; have hnc76 := NB583_582.out; have hcz77_0 := cz_ BK582 0 (.slice A0_0 l0_0.length c0_0); have hcz77_1 := cz_ BK582 1 (.int .i64 a0_1); have hfz77_0 := blk_frozen BK582.out 0; have hfz77_1 := blk_frozen BK582.out 1) | ((with_reducible refine gate_callee (f := 18) rfl ?_); refine goesL_ (some 16) rfl rfl Try.func18 (by kernel_rfl) rfl #[.agg #[.slice A0_0 l0_0.length c0_0, .int .i64 a0_1]] rfl (by (try simp only [List.map_toArray, List.map_cons, List.map_nil]); first | done | rfl | (simp only [List.length_drop, List.length_take]; rfl)) ?_; (with_reducible refine (segment_CheckStore.calls k _ _ l0_0 a0_1 t584 t585 _ ?side1 ?side2 A3.out).mono ?_); (case side1 => exact pc_ (Kd.C_below HR0_0.out HB.out)); (case side2 => exact HC0_0.out); rintro e w78 ⟨rfl, hb⟩; refine ⟨_, rfl, ?_⟩; replace BK582 := kb_ BK582 hb; replace BK583 := kb_ BK583 hb; replace HB := sb_ HB hb; (try clear hb); (try clear hb2); (try clear hk); (try clear hi); have hcz79_0 := cz_ BK583 0 (.slice none 0 0); have hcz79_1 := cz_ BK583 1 (.int .i64 0); have hfz79_0 := blk_frozen BK583.out 0; have hfz79_1 := blk_frozen BK583.out 1))
    refine bodyPost_ret (results_ctt rfl _ _ gb583 24 #[.slice none 0 0, .int .i64 0] (0, 0) _ rfl (by (with_reducible repeat (first | refine blk_drewN ?_ _ | refine blk_drew ?_ | refine blk_alloc ?_ _)); refine blk_put (cs := #[.slice none 0 0, .int .i64 0]) ?_ 1 _ rfl; (with_reducible repeat (first | refine blk_drewN ?_ _ | refine blk_drew ?_ | refine blk_alloc ?_ _)); refine blk_put (cs := #[.slice none 0 0, .int .i64 0]) ?_ 0 _ rfl; (with_reducible repeat (first | refine blk_drewN ?_ _ | refine blk_drew ?_ | refine blk_alloc ?_ _)); exact BK583.out) Try.underlying24 rfl (by kernel_rfl)) rfl ?_
    exact ⟨_, er_, by first | exact Kd.R_nil _ _ _ _ _ | exact Kd.N_nil _ _ _ _ _ | exact Kd.V_nil _ _ _ _ _ | exact Kd.Q_nil _ _ _ _ _ | exact Kd.S_nil _ _ _ _ _, pb_ HB⟩

end Go.Proofs.Ytoabahlaicgmjaa.X
end
section
namespace Go.Proofs.Ytoabahlaicgmjaa.X
open Go.Proofs.Ytoabahlaicgmjaa.XW Go.Proofs.Ytoabahlaicgmjaa.XS
open Go.RowKit Go.Proofs.YtoabahlaicgmjaaW.PrintWords Go.Proofs.YtoabahlaicgmjaaW.PrintLast Go.Proofs.YtoabahlaicgmjaaW.PrintMore
attribute [local go_sem] max2_int min2_int max_two min_two max_three min_three max_four min_four   -- for this text's walks alone
set_option linter.unusedVariables false
set_option linter.unusedSimpArgs false

/-! ### midrangeref04_OwnOps: function 33 -/
def midrangeref04_OwnOps.f (l0 : List (S66)) : Option ((List (S66))) := if ([] : List (S66)).length + l0.length < 2932031007402 then (some (([] : List (S66)) ++ l0)) else (none)
set_option maxHeartbeats 8000000 in
set_option maxRecDepth 100000 in
theorem midrangeref04_OwnOps.calls (A0 : Option Addr) (c0 : Nat) (l0 : List (S66)) (r : List (S66)) (w : World) (hr0 : Kd.C k66 w A0 l0.length l0) (hc0 : l0.length ≤ c0) (h : midrangeref04_OwnOps.f l0 = some r) :
    Calls Try.prog 33 #[.slice A0 l0.length c0] w fun e w' => ∃ v0_ : Value, e = .returned (v0_) ∧ Kd.R k66 66 w' w.heap.size (fun _ => True) v0_ r ∧ Below w.heap.size w w' := by
  have HR0 := Aside0.mk hr0
  have HC0 := Aside0.mk hc0
  clear hr0 hc0
  have HB := Aside0.mk (Below.refl w.heap.size w)
  have H : (if ([] : List (S66)).length + l0.length < 2932031007402 then (some (([] : List (S66)) ++ l0)) else (none)) = some r := h
  clear h
  by_cases c2 : ([] : List (S66)).length + l0.length < 2932031007402
  · rw [if_pos c2] at H
    have LMc2 := Aside0.mk c2
    clear c2
    obtain ⟨y598, hy598⟩ : ∃ y_ : List (S66), y_ = (([] : List (S66)) ++ l0) := ⟨_, rfl⟩
    replace H : (some y598) = some r := by first | (rw [hy598]; with_reducible exact H) | (have H2_ := (Option.bind_some _ _).symm.trans H; rw [hy598]; with_reducible exact H2_) | (have H2_ := (Option.bind_some _ _).symm.trans H; with_reducible exact H2_) | with_reducible exact H | (rw [hy598]; exact H) | exact H
    have Ny598 := Aside0.mk hy598
    clear hy598
    obtain rfl := Option.some.inj H
    go_enter Try.func33, Try.ntmps33
    go_wp2_with (first | ((with_reducible refine gate_builtin (b := .append) (xs := #[.const (.slice none 0 0), .tmp 3]) rfl ?_); at_builtin; refine Kd.R_append_rows k66 (w0 := w) w.heap.size rfl (.const (.slice none 0 0)) (.tmp 3) 58 66 (.agg #[(.int .i64 0), (.int .i64 0), (.int .i64 0), (.int .i64 0), (.string ⟨#[]⟩)]) 48 rfl Try.underlying58 info66 rfl (by decide) (by omega) (.slice none 0 0) ([] : List (S66)) l0 _ _ _ (fun _ => True) (fun _ => False) rfl rfl ?aO ?aR (fun _ _ h => h) (fun _ h => h.elim) ?aF ?aB ?aS ?aL ?_; (case aR => repeat (first | exact HR0.out | (with_reducible refine Kd.C_alloc ?_ _) | (with_reducible refine Kd.C_drewN ?_ _) | (with_reducible refine Kd.C_drew ?_))); (case aB => exact (pb_ HB)); (case aF => exact (fun _ _ => trivial)); (case aO => exact ((Kd.R_nil _ _ _ _ (fun _ => True)))); (case aS => exact (below_size (pb_ HB))); (case aL => have := LMc2.out; omega); intro v599 w3 ho hb hg hat; rw [← Ny598.out] at ho; replace HB := Aside0.mk (hb); have HO600 := Aside0.mk (ho); clear ho hb hg hat))
    go_ret
    exact ⟨_, er_, by (with_reducible repeat (first | apply Kd.R_alloc | apply Kd.R_drewN | apply Kd.R_drew)); exact HO600.out, pb_ HB⟩
  · rw [if_neg c2] at H
    exact absurd H (by simp)

/-! ### midrangebase_Count: function 68 -/
def midrangebase_Count.f (a0 : Bool) : Option (Int) := if a0 = true then (some 1) else (some 0)
set_option maxHeartbeats 8000000 in
set_option maxRecDepth 100000 in
theorem midrangebase_Count.calls (a0 : Bool) (r : Int) (w : World) (h : midrangebase_Count.f a0 = some r) :
    Calls Try.prog 68 #[.bool a0] w fun e w' => e = .returned (.int .i64 r) ∧ Drawn0 w w' := by
  have H : (if a0 = true then (some 1) else (some 0)) = some r := h
  clear h
  by_cases c2 : a0 = true
  · subst c2
    have H1 : (some 1) = some r := by rw [if_pos rfl] at H; exact H
    clear H
    have H := H1
    clear H1
    obtain rfl := Option.some.inj H
    go_enter Try.func68, Try.ntmps68
    go_wp2
    go_ret
    exact ⟨by first | rfl | (simp; done) | (simp [*]; done), by repeat (first | exact Drawn0.refl _ | apply Drawn0.step)⟩
  · replace c2 := Bool.eq_false_iff.mpr c2
    subst c2
    have H1 : (some 0) = some r := by rw [if_neg (show ¬ (false = true) by decide)] at H; exact H
    clear H
    have H := H1
    clear H1
    obtain rfl := Option.some.inj H
    go_enter Try.func68, Try.ntmps68
    go_wp2
    go_ret
    exact ⟨by first | rfl | (simp; done) | (simp [*]; done), by repeat (first | exact Drawn0.refl _ | apply Drawn0.step)⟩

end Go.Proofs.Ytoabahlaicgmjaa.X
end
