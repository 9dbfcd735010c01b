-- Texts of this claim joined by merge.py, a program of its author; what this claim does not reach is left out.
import Derived.Test.YtoabahlaicgmjaaDoorMSegmentUndone5
section
namespace Go.Proofs.YtoabahlaicgmjaaDoor.X
open Go.Proofs.YtoabahlaicgmjaaDoor.XW Go.Proofs.YtoabahlaicgmjaaDoor.XS
open Go.RowKit Go.Proofs.YtoabahlaicgmjaaDoorW.PrintWords Go.Proofs.YtoabahlaicgmjaaDoorW.PrintLast Go.Proofs.YtoabahlaicgmjaaDoorW.PrintMore
attribute [local go_sem] max2_int min2_int max_two min_two max_three min_three max_four min_four   -- for this text's walks alone
set_option linter.unusedVariables false
set_option linter.unusedSimpArgs false
def segment_apply.f (k : Nat) (l0_0 : List (S46)) (a0_1 : Int) (a1_0 : Int) (a1_1 : Int) (a1_2 : Int) (a1_3 : Int) (a1_4 : ByteArray) : Option ((List (S46)) × Int × Int) := (segment_form.f a1_0 a1_1 a1_2 a1_3 a1_4).bind fun t217 => (if t217 = 0 then (if a1_0 = 0 then ((segment_Created.f k l0_0 a0_1 a1_3).bind fun bt218 => (some (bt218.1, bt218.2.1, bt218.2.2.2))) else (if a1_0 = 1 then ((segment_Extended.f k l0_0 a0_1 a1_1 a1_3).bind fun bt225 => (some (bt225.1, bt225.2.1, bt225.2.2))) else (if a1_0 = 2 then ((segment_Truncated.f k l0_0 a0_1 a1_1 a1_3).bind fun bt230 => (some (bt230.1, bt230.2.1, bt230.2.2))) else (if a1_0 = 3 then ((segment_Destroyed.f k l0_0 a0_1 a1_1).bind fun bt235 => (some (bt235.1, bt235.2.1, bt235.2.2))) else ((segment_Written.f k l0_0 a0_1 a1_1 a1_2 a1_4).bind fun bt240 => (some (bt240.1, bt240.2.1, bt240.2.2))))))) else (some (([] : List (S46)), 0, t217)))
set_option maxHeartbeats 8000000 in
set_option maxRecDepth 100000 in
theorem segment_apply.calls (k : Nat) (A0_0 : Option Addr) (c0_0 : Nat) (l0_0 : List (S46)) (a0_1 : Int) (a1_0 : Int) (a1_1 : Int) (a1_2 : Int) (a1_3 : Int) (a1_4 : ByteArray) (r1 : List (S46)) (r2 : Int) (r3 : Int) (w : World) (hr0_0 : Kd.C k46 w A0_0 l0_0.length l0_0) (hc0_0 : l0_0.length ≤ c0_0) (h : segment_apply.f k l0_0 a0_1 a1_0 a1_1 a1_2 a1_3 a1_4 = some (r1, r2, r3)) :
  Calls Tryd.prog 24 #[.agg #[.slice A0_0 l0_0.length c0_0, .int .i64 a0_1], .agg #[.int .i64 a1_0, .int .i64 a1_1, .int .i64 a1_2, .int .i64 a1_3, .string a1_4]] w fun e w' => ∃ v0_ : Value, e = .returned (.tuple #[.agg #[v0_, .int .i64 r2], .int .i64 r3]) ∧ Kd.R k46 46 w' w.heap.size (fun _ => True) v0_ r1 ∧ Below w.heap.size w w' := by
 have hu24 := Tryd.underlying24
 have hu26 := Tryd.underlying26
 have hu79 := Tryd.underlying79
 have HR0_0 := Aside0.mk hr0_0
 have HC0_0 := Aside0.mk hc0_0
 clear hr0_0 hc0_0
 have HB := Aside0.mk (Below.refl w.heap.size w)
 have H : ((segment_form.f a1_0 a1_1 a1_2 a1_3 a1_4).bind fun t217 => (if t217 = 0 then (if a1_0 = 0 then ((segment_Created.f k l0_0 a0_1 a1_3).bind fun bt218 => (some (bt218.1, bt218.2.1, bt218.2.2.2))) else (if a1_0 = 1 then ((segment_Extended.f k l0_0 a0_1 a1_1 a1_3).bind fun bt225 => (some (bt225.1, bt225.2.1, bt225.2.2))) else (if a1_0 = 2 then ((segment_Truncated.f k l0_0 a0_1 a1_1 a1_3).bind fun bt230 => (some (bt230.1, bt230.2.1, bt230.2.2))) else (if a1_0 = 3 then ((segment_Destroyed.f k l0_0 a0_1 a1_1).bind fun bt235 => (some (bt235.1, bt235.2.1, bt235.2.2))) else ((segment_Written.f k l0_0 a0_1 a1_1 a1_2 a1_4).bind fun bt240 => (some (bt240.1, bt240.2.1, bt240.2.2))))))) else (some (([] : List (S46)), 0, t217)))) = some (r1, r2, r3) := h
 clear h
 replace H := Option.bind_eq_some_iff.mp H
 obtain ⟨t217, A30, H⟩ := H
 replace H : (if t217 = 0 then (if a1_0 = 0 then ((segment_Created.f k l0_0 a0_1 a1_3).bind fun bt218 => (some (bt218.1, bt218.2.1, bt218.2.2.2))) else (if a1_0 = 1 then ((segment_Extended.f k l0_0 a0_1 a1_1 a1_3).bind fun bt225 => (some (bt225.1, bt225.2.1, bt225.2.2))) else (if a1_0 = 2 then ((segment_Truncated.f k l0_0 a0_1 a1_1 a1_3).bind fun bt230 => (some (bt230.1, bt230.2.1, bt230.2.2))) else (if a1_0 = 3 then ((segment_Destroyed.f k l0_0 a0_1 a1_1).bind fun bt235 => (some (bt235.1, bt235.2.1, bt235.2.2))) else ((segment_Written.f k l0_0 a0_1 a1_1 a1_2 a1_4).bind fun bt240 => (some (bt240.1, bt240.2.1, bt240.2.2))))))) else (some (([] : List (S46)), 0, t217))) = some (r1, r2, r3) := H
 have A3 := Aside0.mk A30
 clear A30
 by_cases c4 : t217 = 0
 ·
  rw [if_pos c4] at H
  have c4b0 : (t217 == 0) = true := beq_iff_eq.mpr c4
  have c4b1 : (t217 != 0) = false := bne_eq_false_iff_eq.mpr c4
  clear c4
  by_cases c5 : a1_0 = 0
  ·
   rw [if_pos c5] at H
   have c5b0 : (a1_0 == 0) = true := beq_iff_eq.mpr c5
   have c5b1 : (a1_0 != 0) = false := bne_eq_false_iff_eq.mpr c5
   clear c5
   replace H := Option.bind_eq_some_iff.mp H
   obtain ⟨⟨t218, t221, t222, t223⟩, A60, H⟩ := H
   replace H : (some (t218, t221, t223)) = some (r1, r2, r3) := H
   have A6 := Aside0.mk A60
   clear A60
   simp only [Option.some.injEq, Prod.mk.injEq] at H
   obtain ⟨rfl, rfl, rfl⟩ := H
   go_enter Tryd.func24, Tryd.ntmps24
   go_wp2_with (first | ((with_reducible refine gate_dst (N := 2) rfl ?_); refine bx_ 2 #[.slice A0_0 l0_0.length c0_0, .int .i64 a0_1] 24 ?_; intro gb214 hg w7 hbox hb; have BK214 := Aside0.mk (hbox); have GW214 := gw_ hg HB; have GE214 := gw_ hg HB; replace HB := sb_ HB hb; clear hb hbox hg) | ((with_reducible refine gate_dst (N := 3) rfl ?_); refine bx_ 3 #[.int .i64 a1_0, .int .i64 a1_1, .int .i64 a1_2, .int .i64 a1_3, .string a1_4] 26 ?_; intro gb215 hg w8 hbox hb; have BK215 := Aside0.mk (hbox); have GW215 := gw_ hg HB; have GE215 := gw_ hg HB; replace HB := sb_ HB hb; have NB214_215 := nl_ hg BK214; have NB215_214 := ng_ hg BK214; replace BK214 := kb_ BK214 hb; clear hb hbox hg) | ((with_reducible refine gate_dst (N := 4) rfl ?_); refine bx_ 4 #[.slice none 0 0, .int .i64 0] 24 ?_; intro gb216 hg w9 hbox hb; have BK216 := Aside0.mk (hbox); have GW216 := gw_ hg HB; have GE216 := gw_ hg HB; replace HB := sb_ HB hb; have NB214_216 := nl_ hg BK214; have NB216_214 := ng_ hg BK214; replace BK214 := kb_ BK214 hb; have NB215_216 := nl_ hg BK215; have NB216_215 := ng_ hg BK215; replace BK215 := kb_ BK215 hb; clear hb hbox hg; have hnb10 := NB215_214.out; have hnc10 := NB214_215.out; have hnb11 := NB215_216.out; have hnc11 := NB216_215.out; have hcz12_0 := cz_ BK215 0 (.int .i64 a1_0); have hcz12_1 := cz_ BK215 1 (.int .i64 a1_1); have hcz12_2 := cz_ BK215 2 (.int .i64 a1_2); have hcz12_3 := cz_ BK215 3 (.int .i64 a1_3); have hcz12_4 := cz_ BK215 4 (.string a1_4); have hfz12_0 := blk_frozen BK215.out 0; have hfz12_1 := blk_frozen BK215.out 1; have hfz12_2 := blk_frozen BK215.out 2; have hfz12_3 := blk_frozen BK215.out 3; have hfz12_4 := blk_frozen BK215.out 4) | ((with_reducible refine gate_callee (f := 41) rfl ?_); refine gl_ 11 Tryd.func41 #[.agg #[.int .i64 a1_0, .int .i64 a1_1, .int .i64 a1_2, .int .i64 a1_3, .string a1_4]] ?_; (with_reducible refine (segment_form.calls a1_0 a1_1 a1_2 a1_3 a1_4 t217 _ A3.out).mono ?_); rintro e w13 ⟨rfl, hb⟩; refine ⟨_, rfl, ?_⟩; replace BK214 := kb_ BK214 hb; replace BK215 := kb_ BK215 hb; replace BK216 := kb_ BK216 hb; replace HB := sb_ HB hb; (try clear hb); (try clear hb2); (try clear hk); (try clear hi); have hcz14_0 := cz_ BK215 0 (.int .i64 a1_0); have hcz14_1 := cz_ BK215 1 (.int .i64 a1_1); have hcz14_2 := cz_ BK215 2 (.int .i64 a1_2); have hcz14_3 := cz_ BK215 3 (.int .i64 a1_3); have hcz14_4 := cz_ BK215 4 (.string a1_4); have hfz14_0 := blk_frozen BK215.out 0; have hfz14_1 := blk_frozen BK215.out 1; have hfz14_2 := blk_frozen BK215.out 2; have hfz14_3 := blk_frozen BK215.out 3; have hfz14_4 := blk_frozen BK215.out 4; have hnb15 := NB214_216.out; have hnc15 := NB216_214.out; have hcz16_0 := cz_ BK214 0 (.slice A0_0 l0_0.length c0_0); have hcz16_1 := cz_ BK214 1 (.int .i64 a0_1); have hfz16_0 := blk_frozen BK214.out 0; have hfz16_1 := blk_frozen BK214.out 1) | ((with_reducible refine gate_callee (f := 14) rfl ?_); refine gl_ 24 Tryd.func14 #[.agg #[.slice A0_0 l0_0.length c0_0, .int .i64 a0_1], .int .i64 a1_3] ?_; (with_reducible refine (segment_Created.calls k _ _ l0_0 a0_1 a1_3 t218 t221 t222 t223 _ ?side1 ?side2 A6.out).mono ?_); (case side1 => exact pc_ (Kd.C_below HR0_0.out HB.out)); (case side2 => exact HC0_0.out); rintro e w17 ⟨v219, rfl, ho0, hb⟩; refine ⟨_, rfl, ?_⟩; have HO220 := Aside0.mk (Kd.R_lower ho0 (below_size (pb_ HB))); replace BK214 := kb_ BK214 hb; replace BK215 := kb_ BK215 hb; replace BK216 := kb_ BK216 hb; replace HB := sb_ HB hb; (try clear hb); (try clear hb2); (try clear hk); (try clear hi); (try clear ho0)) | ((with_reducible refine gate_dst (N := 7) rfl ?_); refine bx_ 7 #[.slice none 0 0, .int .i64 0] 24 ?_; intro gb224 hg w18 hbox hb; replace HO220 := Aside0.mk (Kd.R_below (rk_ HO220) hb); have BK224 := Aside0.mk (hbox); have GW224 := gw_ hg HB; have GE224 := gw_ hg HB; replace HB := sb_ HB hb; have NB214_224 := nl_ hg BK214; have NB224_214 := ng_ hg BK214; replace BK214 := kb_ BK214 hb; have NB215_224 := nl_ hg BK215; have NB224_215 := ng_ hg BK215; replace BK215 := kb_ BK215 hb; have NB216_224 := nl_ hg BK216; have NB224_216 := ng_ hg BK216; replace BK216 := kb_ BK216 hb; clear hb hbox hg; obtain ⟨Ao19, co19, eo19⟩ := Kd.R_slice HO220.out; subst eo19; have hnb20 := NB224_214.out; have hnc20 := NB214_224.out; have hnb21 := NB224_215.out; have hnc21 := NB215_224.out; have hnb22 := NB224_216.out; have hnc22 := NB216_224.out; have hcz23_0 := cz_ BK224 0 (.slice none 0 0); have hcz23_1 := cz_ BK224 1 (.int .i64 0); have hfz23_0 := blk_frozen BK224.out 0; have hfz23_1 := blk_frozen BK224.out 1; have hcz24_0 := cz_ BK216 0 (.slice none 0 0); have hcz24_1 := cz_ BK216 1 (.int .i64 0); have hfz24_0 := blk_frozen BK216.out 0; have hfz24_1 := blk_frozen BK216.out 1))
   refine bodyPost_ret (results_ct rfl _ _ gb216 24 #[.slice Ao19 t218.length co19, .int .i64 t221] (0, 0) _ rfl (bq_ BK216) Tryd.underlying24 rfl (by kernel_rfl)) rfl ?_
   exact ⟨_, er_, by (with_reducible repeat (first | apply Kd.R_alloc | apply Kd.R_drewN | apply Kd.R_drew)); exact Kd.R_mono (Kd.R_far (p := ⟨gb216, 1, none⟩) (Kd.R_far (p := ⟨gb216, 0, none⟩) (Kd.R_far (p := ⟨gb224, 1, none⟩) (Kd.R_far (p := ⟨gb224, 0, none⟩) (Kd.R_types (Kd.R_types HO220.out BK224.out (by decide)) BK216.out (by decide)) (fun _ hk => hk.1.2) (.slice Ao19 t218.length co19)) (fun _ hk => hk.1.2) (.int .i64 t221)) (fun _ hk => hk.2) (.slice Ao19 t218.length co19)) (fun _ hk => hk.2) (.int .i64 t221)) (fun _ hk => trivial), pb_ HB⟩
  rw [if_neg c5] at H
  have c5b0 : (a1_0 == 0) = false := beq_eq_false_iff_ne.mpr c5
  have c5b1 : (a1_0 != 0) = true := bne_iff_ne.mpr c5
  by_cases c25 : a1_0 = 1
  ·
   rw [if_pos c25] at H
   have c25b0 : (a1_0 == 1) = true := beq_iff_eq.mpr c25
   have c25b1 : (a1_0 != 1) = false := bne_eq_false_iff_eq.mpr c25
   clear c25
   replace H := Option.bind_eq_some_iff.mp H
   obtain ⟨⟨t225, t228, t229⟩, A260, H⟩ := H
   replace H : (some (t225, t228, t229)) = some (r1, r2, r3) := H
   have A26 := Aside0.mk A260
   clear A260
   simp only [Option.some.injEq, Prod.mk.injEq] at H
   obtain ⟨rfl, rfl, rfl⟩ := H
   go_enter Tryd.func24, Tryd.ntmps24
   go_wp2_with (first | ((with_reducible refine gate_dst (N := 2) rfl ?_); refine bx_ 2 #[.slice A0_0 l0_0.length c0_0, .int .i64 a0_1] 24 ?_; intro gb214 hg w27 hbox hb; have BK214 := Aside0.mk (hbox); have GW214 := gw_ hg HB; have GE214 := gw_ hg HB; replace HB := sb_ HB hb; clear hb hbox hg) | ((with_reducible refine gate_dst (N := 3) rfl ?_); refine bx_ 3 #[.int .i64 a1_0, .int .i64 a1_1, .int .i64 a1_2, .int .i64 a1_3, .string a1_4] 26 ?_; intro gb215 hg w28 hbox hb; have BK215 := Aside0.mk (hbox); have GW215 := gw_ hg HB; have GE215 := gw_ hg HB; replace HB := sb_ HB hb; have NB214_215 := nl_ hg BK214; have NB215_214 := ng_ hg BK214; replace BK214 := kb_ BK214 hb; clear hb hbox hg) | ((with_reducible refine gate_dst (N := 4) rfl ?_); refine bx_ 4 #[.slice none 0 0, .int .i64 0] 24 ?_; intro gb216 hg w29 hbox hb; have BK216 := Aside0.mk (hbox); have GW216 := gw_ hg HB; have GE216 := gw_ hg HB; replace HB := sb_ HB hb; have NB214_216 := nl_ hg BK214; have NB216_214 := ng_ hg BK214; replace BK214 := kb_ BK214 hb; have NB215_216 := nl_ hg BK215; have NB216_215 := ng_ hg BK215; replace BK215 := kb_ BK215 hb; clear hb hbox hg; have hnb30 := NB215_214.out; have hnc30 := NB214_215.out; have hnb31 := NB215_216.out; have hnc31 := NB216_215.out; have hcz32_0 := cz_ BK215 0 (.int .i64 a1_0); have hcz32_1 := cz_ BK215 1 (.int .i64 a1_1); have hcz32_2 := cz_ BK215 2 (.int .i64 a1_2); have hcz32_3 := cz_ BK215 3 (.int .i64 a1_3); have hcz32_4 := cz_ BK215 4 (.string a1_4); have hfz32_0 := blk_frozen BK215.out 0; have hfz32_1 := blk_frozen BK215.out 1; have hfz32_2 := blk_frozen BK215.out 2; have hfz32_3 := blk_frozen BK215.out 3; have hfz32_4 := blk_frozen BK215.out 4) | ((with_reducible refine gate_callee (f := 41) rfl ?_); refine gl_ 11 Tryd.func41 #[.agg #[.int .i64 a1_0, .int .i64 a1_1, .int .i64 a1_2, .int .i64 a1_3, .string a1_4]] ?_; (with_reducible refine (segment_form.calls a1_0 a1_1 a1_2 a1_3 a1_4 t217 _ A3.out).mono ?_); rintro e w33 ⟨rfl, hb⟩; refine ⟨_, rfl, ?_⟩; replace BK214 := kb_ BK214 hb; replace BK215 := kb_ BK215 hb; replace BK216 := kb_ BK216 hb; replace HB := sb_ HB hb; (try clear hb); (try clear hb2); (try clear hk); (try clear hi); have hcz34_0 := cz_ BK215 0 (.int .i64 a1_0); have hcz34_1 := cz_ BK215 1 (.int .i64 a1_1); have hcz34_2 := cz_ BK215 2 (.int .i64 a1_2); have hcz34_3 := cz_ BK215 3 (.int .i64 a1_3); have hcz34_4 := cz_ BK215 4 (.string a1_4); have hfz34_0 := blk_frozen BK215.out 0; have hfz34_1 := blk_frozen BK215.out 1; have hfz34_2 := blk_frozen BK215.out 2; have hfz34_3 := blk_frozen BK215.out 3; have hfz34_4 := blk_frozen BK215.out 4; have hnb35 := NB214_216.out; have hnc35 := NB216_214.out; have hcz36_0 := cz_ BK214 0 (.slice A0_0 l0_0.length c0_0); have hcz36_1 := cz_ BK214 1 (.int .i64 a0_1); have hfz36_0 := blk_frozen BK214.out 0; have hfz36_1 := blk_frozen BK214.out 1) | ((with_reducible refine gate_callee (f := 42) rfl ?_); refine gl_ 37 Tryd.func42 #[.agg #[.slice A0_0 l0_0.length c0_0, .int .i64 a0_1], .int .i64 a1_1, .int .i64 a1_3] ?_; (with_reducible refine (segment_Extended.calls k _ _ l0_0 a0_1 a1_1 a1_3 t225 t228 t229 _ ?side1 ?side2 A26.out).mono ?_); (case side1 => exact pc_ (Kd.C_below HR0_0.out HB.out)); (case side2 => exact HC0_0.out); rintro e w37 ⟨v226, rfl, ho0, hb⟩; refine ⟨_, rfl, ?_⟩; have HO227 := Aside0.mk (Kd.R_lower ho0 (below_size (pb_ HB))); replace BK214 := kb_ BK214 hb; replace BK215 := kb_ BK215 hb; replace BK216 := kb_ BK216 hb; replace HB := sb_ HB hb; (try clear hb); (try clear hb2); (try clear hk); (try clear hi); (try clear ho0); obtain ⟨Ao38, co38, eo38⟩ := Kd.R_slice HO227.out; subst eo38; have hcz39_0 := cz_ BK216 0 (.slice none 0 0); have hcz39_1 := cz_ BK216 1 (.int .i64 0); have hfz39_0 := blk_frozen BK216.out 0; have hfz39_1 := blk_frozen BK216.out 1))
   refine bodyPost_ret (results_ct rfl _ _ gb216 24 #[.slice Ao38 t225.length co38, .int .i64 t228] (0, 0) _ rfl (bq_ BK216) Tryd.underlying24 rfl (by kernel_rfl)) rfl ?_
   exact ⟨_, er_, by (with_reducible repeat (first | apply Kd.R_alloc | apply Kd.R_drewN | apply Kd.R_drew)); exact Kd.R_mono (Kd.R_far (p := ⟨gb216, 1, none⟩) (Kd.R_far (p := ⟨gb216, 0, none⟩) (Kd.R_types HO227.out BK216.out (by decide)) (fun _ hk => hk.2) (.slice Ao38 t225.length co38)) (fun _ hk => hk.2) (.int .i64 t228)) (fun _ hk => trivial), pb_ HB⟩
  rw [if_neg c25] at H
  have c25b0 : (a1_0 == 1) = false := beq_eq_false_iff_ne.mpr c25
  have c25b1 : (a1_0 != 1) = true := bne_iff_ne.mpr c25
  by_cases c40 : a1_0 = 2
  ·
   rw [if_pos c40] at H
   have c40b0 : (a1_0 == 2) = true := beq_iff_eq.mpr c40
   have c40b1 : (a1_0 != 2) = false := bne_eq_false_iff_eq.mpr c40
   clear c40
   replace H := Option.bind_eq_some_iff.mp H
   obtain ⟨⟨t230, t233, t234⟩, A410, H⟩ := H
   replace H : (some (t230, t233, t234)) = some (r1, r2, r3) := H
   have A41 := Aside0.mk A410
   clear A410
   simp only [Option.some.injEq, Prod.mk.injEq] at H
   obtain ⟨rfl, rfl, rfl⟩ := H
   go_enter Tryd.func24, Tryd.ntmps24
   go_wp2_with (first | ((with_reducible refine gate_dst (N := 2) rfl ?_); refine bx_ 2 #[.slice A0_0 l0_0.length c0_0, .int .i64 a0_1] 24 ?_; intro gb214 hg w42 hbox hb; have BK214 := Aside0.mk (hbox); have GW214 := gw_ hg HB; have GE214 := gw_ hg HB; replace HB := sb_ HB hb; clear hb hbox hg) | ((with_reducible refine gate_dst (N := 3) rfl ?_); refine bx_ 3 #[.int .i64 a1_0, .int .i64 a1_1, .int .i64 a1_2, .int .i64 a1_3, .string a1_4] 26 ?_; intro gb215 hg w43 hbox hb; have BK215 := Aside0.mk (hbox); have GW215 := gw_ hg HB; have GE215 := gw_ hg HB; replace HB := sb_ HB hb; have NB214_215 := nl_ hg BK214; have NB215_214 := ng_ hg BK214; replace BK214 := kb_ BK214 hb; clear hb hbox hg) | ((with_reducible refine gate_dst (N := 4) rfl ?_); refine bx_ 4 #[.slice none 0 0, .int .i64 0] 24 ?_; intro gb216 hg w44 hbox hb; have BK216 := Aside0.mk (hbox); have GW216 := gw_ hg HB; have GE216 := gw_ hg HB; replace HB := sb_ HB hb; have NB214_216 := nl_ hg BK214; have NB216_214 := ng_ hg BK214; replace BK214 := kb_ BK214 hb; have NB215_216 := nl_ hg BK215; have NB216_215 := ng_ hg BK215; replace BK215 := kb_ BK215 hb; clear hb hbox hg; have hnb45 := NB215_214.out; have hnc45 := NB214_215.out; have hnb46 := NB215_216.out; have hnc46 := NB216_215.out; have hcz47_0 := cz_ BK215 0 (.int .i64 a1_0); have hcz47_1 := cz_ BK215 1 (.int .i64 a1_1); have hcz47_2 := cz_ BK215 2 (.int .i64 a1_2); have hcz47_3 := cz_ BK215 3 (.int .i64 a1_3); have hcz47_4 := cz_ BK215 4 (.string a1_4); have hfz47_0 := blk_frozen BK215.out 0; have hfz47_1 := blk_frozen BK215.out 1; have hfz47_2 := blk_frozen BK215.out 2; have hfz47_3 := blk_frozen BK215.out 3; have hfz47_4 := blk_frozen BK215.out 4) | ((with_reducible refine gate_callee (f := 41) rfl ?_); refine gl_ 11 Tryd.func41 #[.agg #[.int .i64 a1_0, .int .i64 a1_1, .int .i64 a1_2, .int .i64 a1_3, .string a1_4]] ?_; (with_reducible refine (segment_form.calls a1_0 a1_1 a1_2 a1_3 a1_4 t217 _ A3.out).mono ?_); rintro e w48 ⟨rfl, hb⟩; refine ⟨_, rfl, ?_⟩; replace BK214 := kb_ BK214 hb; replace BK215 := kb_ BK215 hb; replace BK216 := kb_ BK216 hb; replace HB := sb_ HB hb; (try clear hb); (try clear hb2); (try clear hk); (try clear hi); have hcz49_0 := cz_ BK215 0 (.int .i64 a1_0); have hcz49_1 := cz_ BK215 1 (.int .i64 a1_1); have hcz49_2 := cz_ BK215 2 (.int .i64 a1_2); have hcz49_3 := cz_ BK215 3 (.int .i64 a1_3); have hcz49_4 := cz_ BK215 4 (.string a1_4); have hfz49_0 := blk_frozen BK215.out 0; have hfz49_1 := blk_frozen BK215.out 1; have hfz49_2 := blk_frozen BK215.out 2; have hfz49_3 := blk_frozen BK215.out 3; have hfz49_4 := blk_frozen BK215.out 4; have hnb50 := NB214_216.out; have hnc50 := NB216_214.out; have hcz51_0 := cz_ BK214 0 (.slice A0_0 l0_0.length c0_0); have hcz51_1 := cz_ BK214 1 (.int .i64 a0_1); have hfz51_0 := blk_frozen BK214.out 0; have hfz51_1 := blk_frozen BK214.out 1) | ((with_reducible refine gate_callee (f := 43) rfl ?_); refine gl_ 47 Tryd.func43 #[.agg #[.slice A0_0 l0_0.length c0_0, .int .i64 a0_1], .int .i64 a1_1, .int .i64 a1_3] ?_; (with_reducible refine (segment_Truncated.calls k _ _ l0_0 a0_1 a1_1 a1_3 t230 t233 t234 _ ?side1 ?side2 A41.out).mono ?_); (case side1 => exact pc_ (Kd.C_below HR0_0.out HB.out)); (case side2 => exact HC0_0.out); rintro e w52 ⟨v231, rfl, ho0, hb⟩; refine ⟨_, rfl, ?_⟩; have HO232 := Aside0.mk (Kd.R_lower ho0 (below_size (pb_ HB))); replace BK214 := kb_ BK214 hb; replace BK215 := kb_ BK215 hb; replace BK216 := kb_ BK216 hb; replace HB := sb_ HB hb; (try clear hb); (try clear hb2); (try clear hk); (try clear hi); (try clear ho0); obtain ⟨Ao53, co53, eo53⟩ := Kd.R_slice HO232.out; subst eo53; have hcz54_0 := cz_ BK216 0 (.slice none 0 0); have hcz54_1 := cz_ BK216 1 (.int .i64 0); have hfz54_0 := blk_frozen BK216.out 0; have hfz54_1 := blk_frozen BK216.out 1))
   refine bodyPost_ret (results_ct rfl _ _ gb216 24 #[.slice Ao53 t230.length co53, .int .i64 t233] (0, 0) _ rfl (bq_ BK216) Tryd.underlying24 rfl (by kernel_rfl)) rfl ?_
   exact ⟨_, er_, by (with_reducible repeat (first | apply Kd.R_alloc | apply Kd.R_drewN | apply Kd.R_drew)); exact Kd.R_mono (Kd.R_far (p := ⟨gb216, 1, none⟩) (Kd.R_far (p := ⟨gb216, 0, none⟩) (Kd.R_types HO232.out BK216.out (by decide)) (fun _ hk => hk.2) (.slice Ao53 t230.length co53)) (fun _ hk => hk.2) (.int .i64 t233)) (fun _ hk => trivial), pb_ HB⟩
  rw [if_neg c40] at H
  have c40b0 : (a1_0 == 2) = false := beq_eq_false_iff_ne.mpr c40
  have c40b1 : (a1_0 != 2) = true := bne_iff_ne.mpr c40
  by_cases c55 : a1_0 = 3
  ·
   rw [if_pos c55] at H
   have c55b0 : (a1_0 == 3) = true := beq_iff_eq.mpr c55
   have c55b1 : (a1_0 != 3) = false := bne_eq_false_iff_eq.mpr c55
   clear c55
   replace H := Option.bind_eq_some_iff.mp H
   obtain ⟨⟨t235, t238, t239⟩, A560, H⟩ := H
   replace H : (some (t235, t238, t239)) = some (r1, r2, r3) := H
   have A56 := Aside0.mk A560
   clear A560
   simp only [Option.some.injEq, Prod.mk.injEq] at H
   obtain ⟨rfl, rfl, rfl⟩ := H
   go_enter Tryd.func24, Tryd.ntmps24
   go_wp2_with (first | ((with_reducible refine gate_dst (N := 2) rfl ?_); refine bx_ 2 #[.slice A0_0 l0_0.length c0_0, .int .i64 a0_1] 24 ?_; intro gb214 hg w57 hbox hb; have BK214 := Aside0.mk (hbox); have GW214 := gw_ hg HB; have GE214 := gw_ hg HB; replace HB := sb_ HB hb; clear hb hbox hg) | ((with_reducible refine gate_dst (N := 3) rfl ?_); refine bx_ 3 #[.int .i64 a1_0, .int .i64 a1_1, .int .i64 a1_2, .int .i64 a1_3, .string a1_4] 26 ?_; intro gb215 hg w58 hbox hb; have BK215 := Aside0.mk (hbox); have GW215 := gw_ hg HB; have GE215 := gw_ hg HB; replace HB := sb_ HB hb; have NB214_215 := nl_ hg BK214; have NB215_214 := ng_ hg BK214; replace BK214 := kb_ BK214 hb; clear hb hbox hg) | ((with_reducible refine gate_dst (N := 4) rfl ?_); refine bx_ 4 #[.slice none 0 0, .int .i64 0] 24 ?_; intro gb216 hg w59 hbox hb; have BK216 := Aside0.mk (hbox); have GW216 := gw_ hg HB; have GE216 := gw_ hg HB; replace HB := sb_ HB hb; have NB214_216 := nl_ hg BK214; have NB216_214 := ng_ hg BK214; replace BK214 := kb_ BK214 hb; have NB215_216 := nl_ hg BK215; have NB216_215 := ng_ hg BK215; replace BK215 := kb_ BK215 hb; clear hb hbox hg; have hnb60 := NB215_214.out; have hnc60 := NB214_215.out; have hnb61 := NB215_216.out; have hnc61 := NB216_215.out; have hcz62_0 := cz_ BK215 0 (.int .i64 a1_0); have hcz62_1 := cz_ BK215 1 (.int .i64 a1_1); have hcz62_2 := cz_ BK215 2 (.int .i64 a1_2); have hcz62_3 := cz_ BK215 3 (.int .i64 a1_3); have hcz62_4 := cz_ BK215 4 (.string a1_4); have hfz62_0 := blk_frozen BK215.out 0; have hfz62_1 := blk_frozen BK215.out 1; have hfz62_2 := blk_frozen BK215.out 2; have hfz62_3 := blk_frozen BK215.out 3; have hfz62_4 := blk_frozen BK215.out 4) | ((with_reducible refine gate_callee (f := 41) rfl ?_); refine gl_ 11 Tryd.func41 #[.agg #[.int .i64 a1_0, .int .i64 a1_1, .int .i64 a1_2, .int .i64 a1_3, .string a1_4]] ?_; (with_reducible refine (segment_form.calls a1_0 a1_1 a1_2 a1_3 a1_4 t217 _ A3.out).mono ?_); rintro e w63 ⟨rfl, hb⟩; refine ⟨_, rfl, ?_⟩; replace BK214 := kb_ BK214 hb; replace BK215 := kb_ BK215 hb; replace BK216 := kb_ BK216 hb; replace HB := sb_ HB hb; (try clear hb); (try clear hb2); (try clear hk); (try clear hi); have hcz64_0 := cz_ BK215 0 (.int .i64 a1_0); have hcz64_1 := cz_ BK215 1 (.int .i64 a1_1); have hcz64_2 := cz_ BK215 2 (.int .i64 a1_2); have hcz64_3 := cz_ BK215 3 (.int .i64 a1_3); have hcz64_4 := cz_ BK215 4 (.string a1_4); have hfz64_0 := blk_frozen BK215.out 0; have hfz64_1 := blk_frozen BK215.out 1; have hfz64_2 := blk_frozen BK215.out 2; have hfz64_3 := blk_frozen BK215.out 3; have hfz64_4 := blk_frozen BK215.out 4; have hnb65 := NB214_216.out; have hnc65 := NB216_214.out; have hcz66_0 := cz_ BK214 0 (.slice A0_0 l0_0.length c0_0); have hcz66_1 := cz_ BK214 1 (.int .i64 a0_1); have hfz66_0 := blk_frozen BK214.out 0; have hfz66_1 := blk_frozen BK214.out 1) | ((with_reducible refine gate_callee (f := 15) rfl ?_); refine gl_ 55 Tryd.func15 #[.agg #[.slice A0_0 l0_0.length c0_0, .int .i64 a0_1], .int .i64 a1_1] ?_; (with_reducible refine (segment_Destroyed.calls k _ _ l0_0 a0_1 a1_1 t235 t238 t239 _ ?side1 ?side2 A56.out).mono ?_); (case side1 => exact pc_ (Kd.C_below HR0_0.out HB.out)); (case side2 => exact HC0_0.out); rintro e w67 ⟨v236, rfl, ho0, hb⟩; refine ⟨_, rfl, ?_⟩; have HO237 := Aside0.mk (Kd.R_lower ho0 (below_size (pb_ HB))); replace BK214 := kb_ BK214 hb; replace BK215 := kb_ BK215 hb; replace BK216 := kb_ BK216 hb; replace HB := sb_ HB hb; (try clear hb); (try clear hb2); (try clear hk); (try clear hi); (try clear ho0); obtain ⟨Ao68, co68, eo68⟩ := Kd.R_slice HO237.out; subst eo68; have hcz69_0 := cz_ BK216 0 (.slice none 0 0); have hcz69_1 := cz_ BK216 1 (.int .i64 0); have hfz69_0 := blk_frozen BK216.out 0; have hfz69_1 := blk_frozen BK216.out 1))
   refine bodyPost_ret (results_ct rfl _ _ gb216 24 #[.slice Ao68 t235.length co68, .int .i64 t238] (0, 0) _ rfl (bq_ BK216) Tryd.underlying24 rfl (by kernel_rfl)) rfl ?_
   exact ⟨_, er_, by (with_reducible repeat (first | apply Kd.R_alloc | apply Kd.R_drewN | apply Kd.R_drew)); exact Kd.R_mono (Kd.R_far (p := ⟨gb216, 1, none⟩) (Kd.R_far (p := ⟨gb216, 0, none⟩) (Kd.R_types HO237.out BK216.out (by decide)) (fun _ hk => hk.2) (.slice Ao68 t235.length co68)) (fun _ hk => hk.2) (.int .i64 t238)) (fun _ hk => trivial), pb_ HB⟩
  rw [if_neg c55] at H
  have c55b0 : (a1_0 == 3) = false := beq_eq_false_iff_ne.mpr c55
  have c55b1 : (a1_0 != 3) = true := bne_iff_ne.mpr c55
  replace H := Option.bind_eq_some_iff.mp H
  obtain ⟨⟨t240, t243, t244⟩, A700, H⟩ := H
  replace H : (some (t240, t243, t244)) = some (r1, r2, r3) := H
  have A70 := Aside0.mk A700
  clear A700
  simp only [Option.some.injEq, Prod.mk.injEq] at H
  obtain ⟨rfl, rfl, rfl⟩ := H
  go_enter Tryd.func24, Tryd.ntmps24
  go_wp2_with (first | ((with_reducible refine gate_dst (N := 2) rfl ?_); refine bx_ 2 #[.slice A0_0 l0_0.length c0_0, .int .i64 a0_1] 24 ?_; intro gb214 hg w71 hbox hb; have BK214 := Aside0.mk (hbox); have GW214 := gw_ hg HB; have GE214 := gw_ hg HB; replace HB := sb_ HB hb; clear hb hbox hg) | ((with_reducible refine gate_dst (N := 3) rfl ?_); refine bx_ 3 #[.int .i64 a1_0, .int .i64 a1_1, .int .i64 a1_2, .int .i64 a1_3, .string a1_4] 26 ?_; intro gb215 hg w72 hbox hb; have BK215 := Aside0.mk (hbox); have GW215 := gw_ hg HB; have GE215 := gw_ hg HB; replace HB := sb_ HB hb; have NB214_215 := nl_ hg BK214; have NB215_214 := ng_ hg BK214; replace BK214 := kb_ BK214 hb; clear hb hbox hg) | ((with_reducible refine gate_dst (N := 4) rfl ?_); refine bx_ 4 #[.slice none 0 0, .int .i64 0] 24 ?_; intro gb216 hg w73 hbox hb; have BK216 := Aside0.mk (hbox); have GW216 := gw_ hg HB; have GE216 := gw_ hg HB; replace HB := sb_ HB hb; have NB214_216 := nl_ hg BK214; have NB216_214 := ng_ hg BK214; replace BK214 := kb_ BK214 hb; have NB215_216 := nl_ hg BK215; have NB216_215 := ng_ hg BK215; replace BK215 := kb_ BK215 hb; clear hb hbox hg; have hnb74 := NB215_214.out; have hnc74 := NB214_215.out; have hnb75 := NB215_216.out; have hnc75 := NB216_215.out; have hcz76_0 := cz_ BK215 0 (.int .i64 a1_0); have hcz76_1 := cz_ BK215 1 (.int .i64 a1_1); have hcz76_2 := cz_ BK215 2 (.int .i64 a1_2); have hcz76_3 := cz_ BK215 3 (.int .i64 a1_3); have hcz76_4 := cz_ BK215 4 (.string a1_4); have hfz76_0 := blk_frozen BK215.out 0; have hfz76_1 := blk_frozen BK215.out 1; have hfz76_2 := blk_frozen BK215.out 2; have hfz76_3 := blk_frozen BK215.out 3; have hfz76_4 := blk_frozen BK215.out 4) | ((with_reducible refine gate_callee (f := 41) rfl ?_); refine gl_ 11 Tryd.func41 #[.agg #[.int .i64 a1_0, .int .i64 a1_1, .int .i64 a1_2, .int .i64 a1_3, .string a1_4]] ?_; (with_reducible refine (segment_form.calls a1_0 a1_1 a1_2 a1_3 a1_4 t217 _ A3.out).mono ?_); rintro e w77 ⟨rfl, hb⟩; refine ⟨_, rfl, ?_⟩; replace BK214 := kb_ BK214 hb; replace BK215 := kb_ BK215 hb; replace BK216 := kb_ BK216 hb; replace HB := sb_ HB hb; (try clear hb); (try clear hb2); (try clear hk); (try clear hi); have hcz78_0 := cz_ BK215 0 (.int .i64 a1_0); have hcz78_1 := cz_ BK215 1 (.int .i64 a1_1); have hcz78_2 := cz_ BK215 2 (.int .i64 a1_2); have hcz78_3 := cz_ BK215 3 (.int .i64 a1_3); have hcz78_4 := cz_ BK215 4 (.string a1_4); have hfz78_0 := blk_frozen BK215.out 0; have hfz78_1 := blk_frozen BK215.out 1; have hfz78_2 := blk_frozen BK215.out 2; have hfz78_3 := blk_frozen BK215.out 3; have hfz78_4 := blk_frozen BK215.out 4; have hnb79 := NB214_216.out; have hnc79 := NB216_214.out; have hcz80_0 := cz_ BK214 0 (.slice A0_0 l0_0.length c0_0); have hcz80_1 := cz_ BK214 1 (.int .i64 a0_1); have hfz80_0 := blk_frozen BK214.out 0; have hfz80_1 := blk_frozen BK214.out 1) | ((with_reducible refine gate_callee (f := 44) rfl ?_); refine gl_ 66 Tryd.func44 #[.agg #[.slice A0_0 l0_0.length c0_0, .int .i64 a0_1], .agg #[.int .i64 a1_1, .int .i64 a1_2], .string a1_4] ?_; (with_reducible refine (segment_Written.calls k _ _ l0_0 a0_1 a1_1 a1_2 a1_4 t240 t243 t244 _ ?side1 ?side2 A70.out).mono ?_); (case side1 => exact pc_ (Kd.C_below HR0_0.out HB.out)); (case side2 => exact HC0_0.out); rintro e w81 ⟨v241, rfl, ho0, hb⟩; refine ⟨_, rfl, ?_⟩; have HO242 := Aside0.mk (Kd.R_lower ho0 (below_size (pb_ HB))); replace BK214 := kb_ BK214 hb; replace BK215 := kb_ BK215 hb; replace BK216 := kb_ BK216 hb; replace HB := sb_ HB hb; (try clear hb); (try clear hb2); (try clear hk); (try clear hi); (try clear ho0); obtain ⟨Ao82, co82, eo82⟩ := Kd.R_slice HO242.out; subst eo82; have hcz83_0 := cz_ BK216 0 (.slice none 0 0); have hcz83_1 := cz_ BK216 1 (.int .i64 0); have hfz83_0 := blk_frozen BK216.out 0; have hfz83_1 := blk_frozen BK216.out 1))
  refine bodyPost_ret (results_ct rfl _ _ gb216 24 #[.slice Ao82 t240.length co82, .int .i64 t243] (0, 0) _ rfl (bq_ BK216) Tryd.underlying24 rfl (by kernel_rfl)) rfl ?_
  exact ⟨_, er_, by (with_reducible repeat (first | apply Kd.R_alloc | apply Kd.R_drewN | apply Kd.R_drew)); exact Kd.R_mono (Kd.R_far (p := ⟨gb216, 1, none⟩) (Kd.R_far (p := ⟨gb216, 0, none⟩) (Kd.R_types HO242.out BK216.out (by decide)) (fun _ hk => hk.2) (.slice Ao82 t240.length co82)) (fun _ hk => hk.2) (.int .i64 t243)) (fun _ hk => trivial), pb_ HB⟩
 rw [if_neg c4] at H
 have c4b0 : (t217 == 0) = false := beq_eq_false_iff_ne.mpr c4
 have c4b1 : (t217 != 0) = true := bne_iff_ne.mpr c4
 simp only [Option.some.injEq, Prod.mk.injEq] at H
 obtain ⟨rfl, rfl, rfl⟩ := H
 go_enter Tryd.func24, Tryd.ntmps24
 go_wp2_with (first | ((with_reducible refine gate_dst (N := 2) rfl ?_); refine bx_ 2 #[.slice A0_0 l0_0.length c0_0, .int .i64 a0_1] 24 ?_; intro gb214 hg w84 hbox hb; have BK214 := Aside0.mk (hbox); have GW214 := gw_ hg HB; have GE214 := gw_ hg HB; replace HB := sb_ HB hb; clear hb hbox hg) | ((with_reducible refine gate_dst (N := 3) rfl ?_); refine bx_ 3 #[.int .i64 a1_0, .int .i64 a1_1, .int .i64 a1_2, .int .i64 a1_3, .string a1_4] 26 ?_; intro gb215 hg w85 hbox hb; have BK215 := Aside0.mk (hbox); have GW215 := gw_ hg HB; have GE215 := gw_ hg HB; replace HB := sb_ HB hb; have NB214_215 := nl_ hg BK214; have NB215_214 := ng_ hg BK214; replace BK214 := kb_ BK214 hb; clear hb hbox hg) | ((with_reducible refine gate_dst (N := 4) rfl ?_); refine bx_ 4 #[.slice none 0 0, .int .i64 0] 24 ?_; intro gb216 hg w86 hbox hb; have BK216 := Aside0.mk (hbox); have GW216 := gw_ hg HB; have GE216 := gw_ hg HB; replace HB := sb_ HB hb; have NB214_216 := nl_ hg BK214; have NB216_214 := ng_ hg BK214; replace BK214 := kb_ BK214 hb; have NB215_216 := nl_ hg BK215; have NB216_215 := ng_ hg BK215; replace BK215 := kb_ BK215 hb; clear hb hbox hg; have hnb87 := NB215_214.out; have hnc87 := NB214_215.out; have hnb88 := NB215_216.out; have hnc88 := NB216_215.out; have hcz89_0 := cz_ BK215 0 (.int .i64 a1_0); have hcz89_1 := cz_ BK215 1 (.int .i64 a1_1); have hcz89_2 := cz_ BK215 2 (.int .i64 a1_2); have hcz89_3 := cz_ BK215 3 (.int .i64 a1_3); have hcz89_4 := cz_ BK215 4 (.string a1_4); have hfz89_0 := blk_frozen BK215.out 0; have hfz89_1 := blk_frozen BK215.out 1; have hfz89_2 := blk_frozen BK215.out 2; have hfz89_3 := blk_frozen BK215.out 3; have hfz89_4 := blk_frozen BK215.out 4) | ((with_reducible refine gate_callee (f := 41) rfl ?_); refine gl_ 11 Tryd.func41 #[.agg #[.int .i64 a1_0, .int .i64 a1_1, .int .i64 a1_2, .int .i64 a1_3, .string a1_4]] ?_; (with_reducible refine (segment_form.calls a1_0 a1_1 a1_2 a1_3 a1_4 t217 _ A3.out).mono ?_); rintro e w90 ⟨rfl, hb⟩; refine ⟨_, rfl, ?_⟩; replace BK214 := kb_ BK214 hb; replace BK215 := kb_ BK215 hb; replace BK216 := kb_ BK216 hb; replace HB := sb_ HB hb; (try clear hb); (try clear hb2); (try clear hk); (try clear hi); have hnb91 := NB216_214.out; have hnc91 := NB214_216.out; have hcz92_0 := cz_ BK216 0 (.slice none 0 0); have hcz92_1 := cz_ BK216 1 (.int .i64 0); have hfz92_0 := blk_frozen BK216.out 0; have hfz92_1 := blk_frozen BK216.out 1))
 refine bodyPost_ret (results_ct rfl _ _ gb216 24 #[.slice none 0 0, .int .i64 0] (0, 0) _ rfl (bq_ BK216) Tryd.underlying24 rfl (by kernel_rfl)) rfl ?_
 exact ⟨_, er_, by first | exact Kd.R_nil _ _ _ _ _ | exact Kd.N_nil _ _ _ _ _ | exact Kd.V_nil _ _ _ _ _ | exact Kd.Q_nil _ _ _ _ _ | exact Kd.S_nil _ _ _ _ _, pb_ HB⟩
def segment_Applied.l0 : Nat → List (S26) → List (S26) → Int → Int → List (S46) → Int → Option ((List (S46)) × Int × Int × Int)
  | 0, _, _, _, _, _, _ => none
  | k + 1, x1, x33, x34, x35, x253000, x253001 => if x35 < x34 then (if 0 ≤ x35 then (if x35 < (x33.length : Int) then ((segment_apply.f k x253000 x253001 ((rd_T26 x33 x35).f0) ((rd_T26 x33 x35).f1) ((rd_T26 x33 x35).f2) ((rd_T26 x33 x35).f3) ((rd_T26 x33 x35).f4)).bind fun bt255 => (if bt255.2.2 = 0 then (segment_Applied.l0 k x1 x33 x34 (wrap64 (x35 + 1)) bt255.1 bt255.2.1) else (some (([] : List (S46)), 0, x35, bt255.2.2)))) else (none)) else (none)) else (some (x253000, x253001, (x1.length : Int), 0))
def segment_Applied.f (k : Nat) (l0_0 : List (S46)) (a0_1 : Int) (l1 : List (S26)) : Option ((List (S46)) × Int × Int × Int) := (segment_CheckStore.f k l0_0 a0_1).bind fun bt247 => (if bt247.2 = 0 then (if (l1.length : Int) > 40 then (some (([] : List (S46)), 0, 0, 2)) else ((api_Segment_23.f l0_0).bind fun t249 => (segment_Applied.l0 k l1 l1 (l1.length : Int) 0 t249 a0_1))) else (some (([] : List (S46)), 0, 0, bt247.2)))
def segment_Applied.T6 : Bool × List (List Nat × List Nat) := (true, [([], []), ([0], [0]), ([1], [1]), ([], []), ([3], [3]), ([2, 4], [2, 4]), ([], []), ([6, 5, 2, 0, 1, 2, 3, 4, 5, 6], [5, 6])])
def segment_Applied.B6 : List Nat := [0, 1, 3, 0, 8, 31, 0, 127]
theorem segment_Applied.tab6 : rtab .any (opsOf Tryd.f11 6) = segment_Applied.T6 := by kernel_rfl
theorem segment_Applied.bits6 : waitsOk segment_Applied.T6.2 segment_Applied.B6 = true := by kernel_rfl
set_option maxHeartbeats 8000000 in
set_option maxRecDepth 100000 in
theorem segment_Applied.calls (k : Nat) (A0_0 : Option Addr) (c0_0 : Nat) (l0_0 : List (S46)) (a0_1 : Int) (A1 : Option Addr) (c1 : Nat) (l1 : List (S26)) (r1 : List (S46)) (r2 : Int) (r3 : Int) (r4 : Int) (w : World) (hr0_0 : Kd.C k46 w A0_0 l0_0.length l0_0) (hc0_0 : l0_0.length ≤ c0_0) (hr1 : Kd.C k26 w A1 l1.length l1) (hc1 : l1.length ≤ c1) (h : segment_Applied.f k l0_0 a0_1 l1 = some (r1, r2, r3, r4)) :
  Calls Tryd.prog 11 #[.agg #[.slice A0_0 l0_0.length c0_0, .int .i64 a0_1], .slice A1 l1.length c1] w fun e w' => ∃ v0_ : Value, e = .returned (.tuple #[.agg #[v0_, .int .i64 r2], .int .i64 r3, .int .i64 r4]) ∧ Kd.R k46 46 w' w.heap.size (fun _ => True) v0_ r1 ∧ Below w.heap.size w w' := by
 have hu24 := Tryd.underlying24
 have hu26 := Tryd.underlying26
 have HR0_0 := Aside0.mk hr0_0
 have HC0_0 := Aside0.mk hc0_0
 clear hr0_0 hc0_0
 have HR1 := Aside0.mk hr1
 have HC1 := Aside0.mk hc1
 clear hr1 hc1
 have HB := Aside0.mk (Below.refl w.heap.size w)
 have H : ((segment_CheckStore.f k l0_0 a0_1).bind fun bt247 => (if bt247.2 = 0 then (if (l1.length : Int) > 40 then (some (([] : List (S46)), 0, 0, 2)) else ((api_Segment_23.f l0_0).bind fun t249 => (segment_Applied.l0 k l1 l1 (l1.length : Int) 0 t249 a0_1))) else (some (([] : List (S46)), 0, 0, bt247.2)))) = some (r1, r2, r3, r4) := h
 clear h
 replace H := Option.bind_eq_some_iff.mp H
 obtain ⟨⟨t247, t248⟩, A30, H⟩ := H
 replace H : (if t248 = 0 then (if (l1.length : Int) > 40 then (some (([] : List (S46)), 0, 0, 2)) else ((api_Segment_23.f l0_0).bind fun t249 => (segment_Applied.l0 k l1 l1 (l1.length : Int) 0 t249 a0_1))) else (some (([] : List (S46)), 0, 0, t248))) = some (r1, r2, r3, r4) := H
 have A3 := Aside0.mk A30
 clear A30
 by_cases c4 : t248 = 0
 ·
  rw [if_pos c4] at H
  have c4b0 : (t248 == 0) = true := beq_iff_eq.mpr c4
  have c4b1 : (t248 != 0) = false := bne_eq_false_iff_eq.mpr c4
  clear c4
  by_cases c5 : (l1.length : Int) > 40
  ·
   rw [if_pos c5] at H
   have c5b0 : decide (40 < (l1.length : Int)) = true := decide_eq_true c5
   have c5b1 : decide (40 < l1.length) = true := decide_eq_true (by omega)
   clear c5
   simp only [Option.some.injEq, Prod.mk.injEq] at H
   obtain ⟨rfl, rfl, rfl, rfl⟩ := H
   go_enter Tryd.func11, Tryd.ntmps11
   go_wp2_with (first | ((with_reducible refine gate_dst (N := 2) rfl ?_); refine bx_ 2 #[.slice A0_0 l0_0.length c0_0, .int .i64 a0_1] 24 ?_; intro gb245 hg w6 hbox hb; have BK245 := Aside0.mk (hbox); have GW245 := gw_ hg HB; have GE245 := gw_ hg HB; replace HB := sb_ HB hb; clear hb hbox hg) | ((with_reducible refine gate_dst (N := 4) rfl ?_); refine bx_ 4 #[.slice none 0 0, .int .i64 0] 24 ?_; intro gb246 hg w7 hbox hb; have BK246 := Aside0.mk (hbox); have GW246 := gw_ hg HB; have GE246 := gw_ hg HB; replace HB := sb_ HB hb; have NB245_246 := nl_ hg BK245; have NB246_245 := ng_ hg BK245; replace BK245 := kb_ BK245 hb; clear hb hbox hg; have hnb8 := NB245_246.out; have hnc8 := NB246_245.out; have hcz9_0 := cz_ BK245 0 (.slice A0_0 l0_0.length c0_0); have hcz9_1 := cz_ BK245 1 (.int .i64 a0_1); have hfz9_0 := blk_frozen BK245.out 0; have hfz9_1 := blk_frozen BK245.out 1) | ((with_reducible refine gate_callee (f := 22) rfl ?_); refine gl_ 16 Tryd.func22 #[.agg #[.slice A0_0 l0_0.length c0_0, .int .i64 a0_1]] ?_; (with_reducible refine (segment_CheckStore.calls k _ _ l0_0 a0_1 t247 t248 _ ?side1 ?side2 A3.out).mono ?_); (case side1 => exact pc_ (Kd.C_below HR0_0.out HB.out)); (case side2 => exact HC0_0.out); rintro e w10 ⟨rfl, hb⟩; refine ⟨_, rfl, ?_⟩; replace BK245 := kb_ BK245 hb; replace BK246 := kb_ BK246 hb; replace HB := sb_ HB hb; (try clear hb); (try clear hb2); (try clear hk); (try clear hi); have hcz11_0 := cz_ BK246 0 (.slice none 0 0); have hcz11_1 := cz_ BK246 1 (.int .i64 0); have hfz11_0 := blk_frozen BK246.out 0; have hfz11_1 := blk_frozen BK246.out 1))
   refine bodyPost_ret (results_ctt rfl _ _ gb246 24 #[.slice none 0 0, .int .i64 0] (0, 0) _ rfl (bq_ BK246) Tryd.underlying24 rfl (by kernel_rfl)) rfl ?_
   exact ⟨_, er_, by first | exact Kd.R_nil _ _ _ _ _ | exact Kd.N_nil _ _ _ _ _ | exact Kd.V_nil _ _ _ _ _ | exact Kd.Q_nil _ _ _ _ _ | exact Kd.S_nil _ _ _ _ _, pb_ HB⟩
  rw [if_neg c5] at H
  have c5b0 : decide (40 < (l1.length : Int)) = false := decide_eq_false c5
  have c5b1 : decide (40 < l1.length) = false := decide_eq_false (by omega)
  clear c5
  replace H := Option.bind_eq_some_iff.mp H
  obtain ⟨t249, A120, H⟩ := H
  replace H : (segment_Applied.l0 k l1 l1 (l1.length : Int) 0 t249 a0_1) = some (r1, r2, r3, r4) := H
  have A12 := Aside0.mk A120
  clear A120
  have H' := Aside0.mk H
  clear H
  go_enter Tryd.func11, Tryd.ntmps11
  try go_wp2_with (first | ((with_reducible refine gate_dst (N := 2) rfl ?_); refine bx_ 2 #[.slice A0_0 l0_0.length c0_0, .int .i64 a0_1] 24 ?_; intro gb245 hg w13 hbox hb; have BK245 := Aside0.mk (hbox); have GW245 := gw_ hg HB; have GE245 := gw_ hg HB; replace HB := sb_ HB hb; clear hb hbox hg) | ((with_reducible refine gate_dst (N := 4) rfl ?_); refine bx_ 4 #[.slice none 0 0, .int .i64 0] 24 ?_; intro gb246 hg w14 hbox hb; have BK246 := Aside0.mk (hbox); have GW246 := gw_ hg HB; have GE246 := gw_ hg HB; replace HB := sb_ HB hb; have NB245_246 := nl_ hg BK245; have NB246_245 := ng_ hg BK245; replace BK245 := kb_ BK245 hb; clear hb hbox hg; have hnb15 := NB245_246.out; have hnc15 := NB246_245.out; have hcz16_0 := cz_ BK245 0 (.slice A0_0 l0_0.length c0_0); have hcz16_1 := cz_ BK245 1 (.int .i64 a0_1); have hfz16_0 := blk_frozen BK245.out 0; have hfz16_1 := blk_frozen BK245.out 1) | ((with_reducible refine gate_callee (f := 22) rfl ?_); refine gl_ 16 Tryd.func22 #[.agg #[.slice A0_0 l0_0.length c0_0, .int .i64 a0_1]] ?_; (with_reducible refine (segment_CheckStore.calls k _ _ l0_0 a0_1 t247 t248 _ ?side1 ?side2 A3.out).mono ?_); (case side1 => exact pc_ (Kd.C_below HR0_0.out HB.out)); (case side2 => exact HC0_0.out); rintro e w17 ⟨rfl, hb⟩; refine ⟨_, rfl, ?_⟩; replace BK245 := kb_ BK245 hb; replace BK246 := kb_ BK246 hb; replace HB := sb_ HB hb; (try clear hb); (try clear hb2); (try clear hk); (try clear hi)))
  replace BK245 := Aside0.mk (blk_drew BK245.out)
  replace BK246 := Aside0.mk (blk_drew BK246.out)
  replace HB := Aside0.mk (below_drew1 HB.out)
  refine start_ (n := 8) (S := fun w' => w'.cell? ⟨gb245, 0, none⟩ = some (.slice A0_0 l0_0.length c0_0) ∧ w'.cell? ⟨gb245, 1, none⟩ = some (.int .i64 a0_1)) (ds := []) #[false, false, false, false, false, false, false, false] (by kernel_rfl) rfl rfl ⟨cy_ BK245 0, cy_ BK245 1⟩ (fun hHeld => ?_); refine with_tabW segment_Applied.tab6 segment_Applied.bits6 (fun HT_ HW_ => ?_)
  generalize w17.drew = w18 at BK245 BK246 HB hHeld ⊢
  refine pu_ 0 27 HT_ ?_
  refine pu_ 3 30 HT_ ?_
  refine tk_ 1 28 HT_ HW_ hHeld rfl (Or.inl ⟨by rfl, by rintro w' ⟨s0, s1⟩; go_simp; with_reducible rfl⟩) ?_
  refine tk_ 4 31 HT_ HW_ hHeld rfl (Or.inl ⟨by rfl, by rintro w' ⟨s0, s1⟩; go_simp; with_reducible rfl⟩) ?_
  refine join_ (σ := Value × Nat) 1 #[true, true, true, true, true, true, true, false] (fun s_ => [(29, s_.1), (9, .pointer (some ⟨s_.2, 0, none⟩)), (32, .agg #[s_.1, .int .i64 a0_1])]) (fun s_ w' => (w'.cell? ⟨gb245, 0, none⟩ = some (.slice A0_0 l0_0.length c0_0) ∧ w'.cell? ⟨gb245, 1, none⟩ = some (.int .i64 a0_1)) ∧ (Kd.R k46 46 w' w.heap.size (fun _ => True) s_.1 t249) ∧ (w'.heap[gb245]? = some (.cells #[.slice A0_0 l0_0.length c0_0, .int .i64 a0_1] 24 (0, 0))) ∧ (w'.heap[gb246]? = some (.cells #[.slice none 0 0, .int .i64 0] 24 (0, 0))) ∧ (w'.heap[s_.2]? = some (.cells #[.slice none 0 0, .int .i64 0] 24 (0, 0))) ∧ (w.heap.size ≤ s_.2) ∧ (w.heap.size ≤ s_.2) ∧ (gb245 ≠ s_.2) ∧ (s_.2 ≠ gb245) ∧ (gb246 ≠ s_.2) ∧ (s_.2 ≠ gb246) ∧ (Below w.heap.size w w')) ?_ ?_
  rotate_left
  ·
   intro hCont
   refine two_ (i := 2) (j := 6) (Ni := some 29) (Nj := some 9) #[true, true, true, true, true, false, false, false] #[true, true, false, true, true, false, true, false] rfl rfl rfl rfl (two_of HT_.out (by kernel_rfl)) (by decide) (by decide) (fun K hK => ?_) (fun K hK => ?_)
   ·
    refine goes_ Tryd.func23 (by kernel_rfl) rfl #[.slice A0_0 l0_0.length c0_0] (by rfl) rfl rfl (by (try simp only [List.map_toArray, List.map_cons, List.map_nil]); first | done | rfl | (simp only [List.length_drop, List.length_take]; rfl)) ?_
    with_reducible refine (api_Segment_23.calls _ _ l0_0 t249 _ ?side1 ?side2 A12.out).mono ?_
    (case side1 => exact pc_ (Kd.C_below HR0_0.out HB.out))
    (case side2 => exact HC0_0.out)
    rintro e w19 ⟨v250, rfl, ho0, hb⟩
    refine ⟨_, rfl, ?_⟩
    have HO251 := Aside0.mk (Kd.R_lower ho0 (below_size (pb_ HB)))
    replace BK245 := kb_ BK245 hb
    replace BK246 := kb_ BK246 hb
    replace HB := sb_ HB hb
    (try clear hb)
    (try clear hb2)
    (try clear hk)
    (try clear hi)
    (try clear ho0)
    obtain ⟨Ao20, co20, eo20⟩ := Kd.R_slice HO251.out
    (first | subst eo20 | (injection eo20 with f1_ f2_ f3_; have f4_ := f1_.symm; have f5_ := f3_.symm; clear f1_ f2_ f3_; subst f4_; subst f5_))
    refine hK.out _ _ ⟨cy_ BK245 0, cy_ BK245 1⟩ (fun hHeld => ?_)
    clear hK K
    refine nn_ 29 ?_
    refine pu_ 5 32 HT_ ?_
    refine one_ (i := 6) (N := some 9) #[true, true, true, true, true, true, true, false] rfl rfl (one_of HT_.out (by kernel_rfl)) (by decide) (fun K hK => ?_)
    refine box_step ?hg (N := 9) ?hd (cs := #[.slice none 0 0, .int .i64 0]) (t := 24) ?hr ?_; (case hd => rfl); (case hg => rfl); (case hr => first | (go_simp; done) | (go_simp; rfl))
    intro gb252 hg w21 hbox hb
    replace HO251 := Aside0.mk (Kd.R_below (rk_ HO251) hb)
    have BK252 := Aside0.mk (hbox)
    have GW252 := gw_ hg HB
    have GE252 := gw_ hg HB
    replace HB := sb_ HB hb
    have NB245_252 := nl_ hg BK245
    have NB252_245 := ng_ hg BK245
    replace BK245 := kb_ BK245 hb
    have NB246_252 := nl_ hg BK246
    have NB252_246 := ng_ hg BK246
    replace BK246 := kb_ BK246 hb
    clear hb hbox hg
    refine hK.out _ _ ⟨cy_ BK245 0, cy_ BK245 1⟩ (fun hHeld => ?_)
    clear hK K
    refine nn_ 9 ?_
    exact norm_ (by simp only [putAll, Act.put, List.setIfInBounds_toArray, List.set_cons_zero, List.set_cons_succ]) (hCont (.slice Ao20 t249.length co20, gb252) _ ⟨hHeld, (rk_ HO251), (pk_ BK245), (pk_ BK246), (pk_ BK252), GW252.out, GE252.out, NB245_252.out, NB252_245.out, NB246_252.out, NB252_246.out, (pb_ HB)⟩)
   skip
   refine box_step ?hg (N := 9) ?hd (cs := #[.slice none 0 0, .int .i64 0]) (t := 24) ?hr ?_; (case hd => rfl); (case hg => rfl); (case hr => first | (go_simp; done) | (go_simp; rfl))
   intro gb252 hg w19 hbox hb
   have BK252 := Aside0.mk (hbox)
   have GW252 := gw_ hg HB
   have GE252 := gw_ hg HB
   replace HB := sb_ HB hb
   have NB245_252 := nl_ hg BK245
   have NB252_245 := ng_ hg BK245
   replace BK245 := kb_ BK245 hb
   have NB246_252 := nl_ hg BK246
   have NB252_246 := ng_ hg BK246
   replace BK246 := kb_ BK246 hb
   clear hb hbox hg
   refine hK.out _ _ ⟨cy_ BK245 0, cy_ BK245 1⟩ (fun hHeld => ?_)
   clear hK K
   refine nn_ 9 ?_
   refine one_ (i := 2) (N := some 29) #[true, true, true, true, true, false, true, false] rfl rfl (one_of HT_.out (by kernel_rfl)) (by decide) (fun K hK => ?_)
   refine goes_ Tryd.func23 (by kernel_rfl) rfl #[.slice A0_0 l0_0.length c0_0] (by rfl) rfl rfl (by (try simp only [List.map_toArray, List.map_cons, List.map_nil]); first | done | rfl | (simp only [List.length_drop, List.length_take]; rfl)) ?_
   with_reducible refine (api_Segment_23.calls _ _ l0_0 t249 _ ?side1 ?side2 A12.out).mono ?_
   (case side1 => exact pc_ (Kd.C_below HR0_0.out HB.out))
   (case side2 => exact HC0_0.out)
   rintro e w20 ⟨v250, rfl, ho0, hb⟩
   refine ⟨_, rfl, ?_⟩
   have HO251 := Aside0.mk (Kd.R_lower ho0 (below_size (pb_ HB)))
   replace BK245 := kb_ BK245 hb
   replace BK246 := kb_ BK246 hb
   replace BK252 := kb_ BK252 hb
   replace HB := sb_ HB hb
   (try clear hb)
   (try clear hb2)
   (try clear hk)
   (try clear hi)
   (try clear ho0)
   obtain ⟨Ao21, co21, eo21⟩ := Kd.R_slice HO251.out
   (first | subst eo21 | (injection eo21 with f1_ f2_ f3_; have f4_ := f1_.symm; have f5_ := f3_.symm; clear f1_ f2_ f3_; subst f4_; subst f5_))
   refine hK.out _ _ ⟨cy_ BK245 0, cy_ BK245 1⟩ (fun hHeld => ?_)
   clear hK K
   refine nn_ 29 ?_
   refine pu_ 5 32 HT_ ?_
   exact norm_ (by simp only [putAll, Act.put, List.setIfInBounds_toArray, List.set_cons_zero, List.set_cons_succ]) (hCont (.slice Ao21 t249.length co21, gb252) _ ⟨hHeld, (rk_ HO251), (pk_ BK245), (pk_ BK246), (pk_ BK252), GW252.out, GE252.out, NB245_252.out, NB252_245.out, NB246_252.out, NB252_246.out, (pb_ HB)⟩)
  clear BK245 BK246 HB
  rintro ⟨v250, gb252⟩ w22 ⟨hHeld, HO251, BK245, BK246, BK252, GW252, GE252, NB245_252, NB252_245, NB246_252, NB252_246, HB⟩
  try dsimp only at hHeld HO251 BK245 BK246 BK252 GW252 GE252 NB245_252 NB252_245 NB246_252 NB252_246 HB
  replace HO251 := Aside0.mk HO251
  replace BK245 := Aside0.mk BK245
  replace BK246 := Aside0.mk BK246
  replace BK252 := Aside0.mk BK252
  replace GW252 := Aside0.mk GW252
  replace GE252 := Aside0.mk GE252
  replace NB245_252 := Aside0.mk NB245_252
  replace NB252_245 := Aside0.mk NB252_245
  replace NB246_252 := Aside0.mk NB246_252
  replace NB252_246 := Aside0.mk NB252_246
  replace HB := Aside0.mk HB
  obtain ⟨Ao23, co23, eo23⟩ := Kd.R_slice HO251.out
  (first | subst eo23 | (injection eo23 with f1_ f2_ f3_; have f4_ := f1_.symm; have f5_ := f3_.symm; clear f1_ f2_ f3_; subst f4_; subst f5_))
  refine nm_ ?_
  refine one_ (i := 7) (N := none) #[true, true, true, true, true, true, true, true] rfl rfl (one_of HT_.out (by kernel_rfl)) (by decide) (fun K hK => ?_)
  have hs24 : w22.cell? ⟨gb252, 0, none⟩ = some (.slice none 0 0) := (blk_cell BK252.out 0).trans rfl
  have hfs24 := blk_frozen BK252.out 0
  have hns24_0 := NB245_252.out
  have hns24_1 := NB246_252.out
  have hms24_0 := NB252_245.out
  have hms24_1 := NB252_246.out
  have hs25 : w22.cell? ⟨gb252, 1, none⟩ = some (.int .i64 0) := (blk_cell BK252.out 1).trans rfl
  have hfs25 := blk_frozen BK252.out 1
  have hns25_0 := NB245_252.out
  have hns25_1 := NB246_252.out
  have hms25_0 := NB252_245.out
  have hms25_1 := NB252_246.out
  refine skip_ (w1 := ?_) (by rfl) rfl ?_ ?_
  rotate_left
  ·
   go_simp
   rfl
  refine hK.out _ _ ⟨((cell_far (p := ⟨gb252, _, none⟩) NB245_252.out _).trans (((cell_far (p := ⟨gb252, _, none⟩) NB245_252.out _).trans (hHeld.1)))), ((cell_far (p := ⟨gb252, _, none⟩) NB245_252.out _).trans (((cell_far (p := ⟨gb252, _, none⟩) NB245_252.out _).trans (hHeld.2))))⟩ (fun hHeld => ?_)
  clear hK K
  refine done_ (done_of HT_.out (by kernel_rfl)) ?_
  try go_wp2
  go_loopg [35] k (fun kq v35 w' => ∃ (x35_1 : Int) (x247001_1 : Int) (x253000_1 : List (S46)) (x253001_1 : Int) (u253000 : Value), v35 = .int .i64 x35_1 ∧ Aside0 (segment_Applied.l0 kq l1 l1 (l1.length : Int) x35_1 x253000_1 x253001_1 = some (r1, r2, r3, r4)) ∧ Aside0 (kq ≤ k) ∧ Aside0 (Kd.R k46 46 w' w.heap.size (fun _ => True) u253000 x253000_1) ∧ Aside0 (w'.heap[gb245]? = some (.cells #[(.slice A0_0 l0_0.length c0_0), .int .i64 a0_1] 24 (0, 0))) ∧ Aside0 (w'.heap[gb246]? = some (.cells #[(.slice none 0 0), .int .i64 x247001_1] 24 (0, 0))) ∧ Aside0 (w'.heap[gb252]? = some (.cells #[u253000, .int .i64 x253001_1] 24 (0, 0))) ∧ Aside0 (Below w.heap.size w w'))
  case atStart => exact ⟨(0), (0), (t249), (a0_1), (.slice Ao23 t249.length co23), rl_, H', ⟨Nat.le_refl _⟩, ⟨by (with_reducible repeat (first | apply Kd.R_alloc | apply Kd.R_drewN | apply Kd.R_drew)); exact Kd.R_mono (Kd.R_far (p := ⟨gb252, 1, none⟩) (Kd.R_far (p := ⟨gb252, 0, none⟩) (Kd.R_types HO251.out BK252.out (by decide)) (fun _ hk => hk.2) (.slice Ao23 t249.length co23)) (fun _ hk => hk.2) (.int .i64 a0_1)) (fun _ hk => trivial)⟩, ⟨by (with_reducible repeat (first | refine blk_drewN ?_ _ | refine blk_drew ?_ | refine blk_alloc ?_ _)); refine blk_far ?_ NB245_252.out _; (with_reducible repeat (first | refine blk_drewN ?_ _ | refine blk_drew ?_ | refine blk_alloc ?_ _)); refine blk_far ?_ NB245_252.out _; (with_reducible repeat (first | refine blk_drewN ?_ _ | refine blk_drew ?_ | refine blk_alloc ?_ _)); exact BK245.out⟩, ⟨by (with_reducible repeat (first | refine blk_drewN ?_ _ | refine blk_drew ?_ | refine blk_alloc ?_ _)); refine blk_far ?_ NB246_252.out _; (with_reducible repeat (first | refine blk_drewN ?_ _ | refine blk_drew ?_ | refine blk_alloc ?_ _)); refine blk_far ?_ NB246_252.out _; (with_reducible repeat (first | refine blk_drewN ?_ _ | refine blk_drew ?_ | refine blk_alloc ?_ _)); exact BK246.out⟩, ⟨bq_ BK252⟩, ⟨pb_ HB⟩⟩
  case round =>
   clear H'
   try clear c1
   try clear c2
   try clear p2
   try clear c4
   try clear c4b0
   try clear c4b1
   try clear c5
   try clear c5b0
   try clear c5b1
   try clear c8
   try clear c11
   try clear c15
   try clear c22
   try clear c23
   try clear hcz11_0
   try clear hcz11_1
   try clear hcz16_0
   try clear hcz16_1
   try clear hcz9_0
   try clear hcz9_1
   try clear hfz11_0
   try clear hfz11_1
   try clear hfz16_0
   try clear hfz16_1
   try clear hfz9_0
   try clear hfz9_1
   obtain ⟨x35_1, x247001_1, x253000_1, x253001_1, u253000, rfl, HA, HK1, HO_253000, BK245, BK246, BK252, HB⟩ := hrel
   cases gk with
   | zero => exact absurd HA.out (by simp [segment_Applied.l0])
   | succ k1 =>
    have H := HA.out
    clear HA
    simp only [segment_Applied.l0] at H
    by_cases c26 : x35_1 < (l1.length : Int)
    ·
     rw [if_pos c26] at H
     have c26b0 : decide (x35_1 < (l1.length : Int)) = true := decide_eq_true c26
     clear c26
     by_cases c27 : 0 ≤ x35_1
     ·
      rw [if_pos c27] at H
      have c27b0 : decide (0 ≤ x35_1) = true := decide_eq_true c27
      clear c27
      by_cases c28 : x35_1 < (l1.length : Int)
      ·
       rw [if_pos c28] at H
       have c28b0 : decide (x35_1 < (l1.length : Int)) = true := decide_eq_true c28
       clear c28
       replace H := Option.bind_eq_some_iff.mp H
       obtain ⟨⟨t255, t258, t259⟩, A290, H⟩ := H
       replace H : (if t259 = 0 then (segment_Applied.l0 k1 l1 l1 (l1.length : Int) (wrap64 (x35_1 + 1)) t255 t258) else (some (([] : List (S46)), 0, x35_1, t259))) = some (r1, r2, r3, r4) := H
       have A29 := Aside0.mk A290
       clear A290
       by_cases c30 : t259 = 0
       ·
        rw [if_pos c30] at H
        have c30b0 : (t259 == 0) = true := beq_iff_eq.mpr c30
        have c30b1 : (t259 != 0) = false := bne_eq_false_iff_eq.mpr c30
        clear c30
        have H' := Aside0.mk H
        clear H
        have p253 : 0 ≤ (x35_1 : Int) := ct_
        have q253 : x35_1 < (l1.length : Int) := ct_
        obtain ⟨ad253, e253, hx253_0, hx253_1, hx253_2, hx253_3, hx253_4⟩ := at_T26 HR1.out x35_1 p253 q253
        cases e253
        replace hx253_0 := pw_cell_below HB.out hx253_0
        replace hx253_1 := pw_cell_below HB.out hx253_1
        replace hx253_2 := pw_cell_below HB.out hx253_2
        replace hx253_3 := pw_cell_below HB.out hx253_3
        replace hx253_4 := pw_cell_below HB.out hx253_4
        replace p253 := eq_true p253
        replace q253 := eq_true q253
        go_wp2_with (first | ((with_reducible refine gate_dst (N := 11) rfl ?_); refine bx_ 11 #[.int .i64 0, .int .i64 0, .int .i64 0, .int .i64 0, .string (⟨#[]⟩ : ByteArray)] 26 ?_; intro gb254 hg w31 hbox hb; replace HO_253000 := Aside0.mk (Kd.R_below (rk_ HO_253000) hb); have BK254 := Aside0.mk (hbox); have GW254 := gw_ hg HB; have GE254 := gw_ hg HB; replace HB := sb_ HB hb; have NB245_254 := nl_ hg BK245; have NB254_245 := ng_ hg BK245; replace BK245 := kb_ BK245 hb; have NB246_254 := nl_ hg BK246; have NB254_246 := ng_ hg BK246; replace BK246 := kb_ BK246 hb; have NB252_254 := nl_ hg BK252; have NB254_252 := ng_ hg BK252; replace BK252 := kb_ BK252 hb; clear hb hbox hg; have hnb32 := NB254_245.out; have hnc32 := NB245_254.out; have hnb33 := NB254_246.out; have hnc33 := NB246_254.out; have hnb34 := NB254_252.out; have hnc34 := NB252_254.out; have hcz35_0 := cz_ BK254 0 (.int .i64 0); have hcz35_1 := cz_ BK254 1 (.int .i64 0); have hcz35_2 := cz_ BK254 2 (.int .i64 0); have hcz35_3 := cz_ BK254 3 (.int .i64 0); have hcz35_4 := cz_ BK254 4 (.string (⟨#[]⟩ : ByteArray)); have hfz35_0 := blk_frozen BK254.out 0; have hfz35_1 := blk_frozen BK254.out 1; have hfz35_2 := blk_frozen BK254.out 2; have hfz35_3 := blk_frozen BK254.out 3; have hfz35_4 := blk_frozen BK254.out 4; have hnb36 := NB252_245.out; have hnc36 := NB245_252.out; have hnb37 := NB252_246.out; have hnc37 := NB246_252.out; have hcz38_0 := cz_ BK252 0 (u253000); have hcz38_1 := cz_ BK252 1 (.int .i64 x253001_1); have hfz38_0 := blk_frozen BK252.out 0; have hfz38_1 := blk_frozen BK252.out 1; obtain ⟨Ao39, co39, eo39⟩ := Kd.R_slice HO_253000.out; subst eo39) | ((with_reducible refine gate_callee (f := 24) rfl ?_); refine gl_ 43 Tryd.func24 #[.agg #[.slice Ao39 x253000_1.length co39, .int .i64 x253001_1], .agg #[.int .i64 ((rd_T26 l1 x35_1).f0), .int .i64 ((rd_T26 l1 x35_1).f1), .int .i64 ((rd_T26 l1 x35_1).f2), .int .i64 ((rd_T26 l1 x35_1).f3), .string ((rd_T26 l1 x35_1).f4)]] ?_; (with_reducible refine (segment_apply.calls k1 _ _ x253000_1 x253001_1 ((rd_T26 l1 x35_1).f0) ((rd_T26 l1 x35_1).f1) ((rd_T26 l1 x35_1).f2) ((rd_T26 l1 x35_1).f3) ((rd_T26 l1 x35_1).f4) t255 t258 t259 _ ?side1 ?side2 A29.out).mono ?_); (case side1 => refine (Kd.R_reads' (e := 46) (base := w.heap.size) (ok := fun k_ => True) (n := x253000_1.length) (c := co39) ?_).2.2; exact (by (with_reducible repeat (first | apply Kd.R_alloc | apply Kd.R_drewN | apply Kd.R_drew)); exact (Kd.R_mono (Kd.R_far (p := ⟨gb254, 4, none⟩) (Kd.R_far (p := ⟨gb254, 3, none⟩) (Kd.R_far (p := ⟨gb254, 2, none⟩) (Kd.R_far (p := ⟨gb254, 1, none⟩) (Kd.R_far (p := ⟨gb254, 0, none⟩) (Kd.R_types HO_253000.out BK254.out (by decide)) (fun _ hk => hk.2) (.int .i64 ((rd_T26 l1 x35_1).f0))) (fun _ hk => hk.2) (.int .i64 ((rd_T26 l1 x35_1).f1))) (fun _ hk => hk.2) (.int .i64 ((rd_T26 l1 x35_1).f2))) (fun _ hk => hk.2) (.int .i64 ((rd_T26 l1 x35_1).f3))) (fun _ hk => hk.2) (.string ((rd_T26 l1 x35_1).f4))) (fun _ h_ => h_.1)))); (case side2 => exact (Kd.R_reads' HO_253000.out).2.1); rintro e w40 ⟨v256, rfl, ho0, hb⟩; refine ⟨_, rfl, ?_⟩; have HO257 := Aside0.mk (Kd.R_lower (Kd.R_new' ho0 (Kd.R_lt (by (with_reducible repeat (first | apply Kd.R_alloc | apply Kd.R_drewN | apply Kd.R_drew)); exact (Kd.R_mono (Kd.R_far (p := ⟨gb254, 4, none⟩) (Kd.R_far (p := ⟨gb254, 3, none⟩) (Kd.R_far (p := ⟨gb254, 2, none⟩) (Kd.R_far (p := ⟨gb254, 1, none⟩) (Kd.R_far (p := ⟨gb254, 0, none⟩) (Kd.R_types HO_253000.out BK254.out (by decide)) (fun _ hk => hk.2) (.int .i64 ((rd_T26 l1 x35_1).f0))) (fun _ hk => hk.2) (.int .i64 ((rd_T26 l1 x35_1).f1))) (fun _ hk => hk.2) (.int .i64 ((rd_T26 l1 x35_1).f2))) (fun _ hk => hk.2) (.int .i64 ((rd_T26 l1 x35_1).f3))) (fun _ hk => hk.2) (.string ((rd_T26 l1 x35_1).f4))) (fun _ h_ => h_.1))))) (below_size (pb_ HB))); replace HO_253000 := Aside0.mk (Kd.R_elder' (by (with_reducible repeat (first | apply Kd.R_alloc | apply Kd.R_drewN | apply Kd.R_drew)); exact (Kd.R_mono (Kd.R_far (p := ⟨gb254, 4, none⟩) (Kd.R_far (p := ⟨gb254, 3, none⟩) (Kd.R_far (p := ⟨gb254, 2, none⟩) (Kd.R_far (p := ⟨gb254, 1, none⟩) (Kd.R_far (p := ⟨gb254, 0, none⟩) (Kd.R_types HO_253000.out BK254.out (by decide)) (fun _ hk => hk.2) (.int .i64 ((rd_T26 l1 x35_1).f0))) (fun _ hk => hk.2) (.int .i64 ((rd_T26 l1 x35_1).f1))) (fun _ hk => hk.2) (.int .i64 ((rd_T26 l1 x35_1).f2))) (fun _ hk => hk.2) (.int .i64 ((rd_T26 l1 x35_1).f3))) (fun _ hk => hk.2) (.string ((rd_T26 l1 x35_1).f4))) (fun _ h_ => h_.1))) (Kd.R_base ho0) hb); replace BK245 := Aside0.mk (blk_below (g := gb245) (o := .cells #[.slice A0_0 l0_0.length c0_0, .int .i64 a0_1] 24 (0, 0)) (by (with_reducible repeat (first | refine blk_drewN ?_ _ | refine blk_drew ?_ | refine blk_alloc ?_ _)); refine blk_far ?_ NB245_254.out _; (with_reducible repeat (first | refine blk_drewN ?_ _ | refine blk_drew ?_ | refine blk_alloc ?_ _)); refine blk_far ?_ NB245_254.out _; (with_reducible repeat (first | refine blk_drewN ?_ _ | refine blk_drew ?_ | refine blk_alloc ?_ _)); refine blk_far ?_ NB245_254.out _; (with_reducible repeat (first | refine blk_drewN ?_ _ | refine blk_drew ?_ | refine blk_alloc ?_ _)); refine blk_far ?_ NB245_254.out _; (with_reducible repeat (first | refine blk_drewN ?_ _ | refine blk_drew ?_ | refine blk_alloc ?_ _)); refine blk_far ?_ NB245_254.out _; (with_reducible repeat (first | refine blk_drewN ?_ _ | refine blk_drew ?_ | refine blk_alloc ?_ _)); exact BK245.out) hb); replace BK246 := Aside0.mk (blk_below (g := gb246) (o := .cells #[.slice none 0 0, .int .i64 x247001_1] 24 (0, 0)) (by (with_reducible repeat (first | refine blk_drewN ?_ _ | refine blk_drew ?_ | refine blk_alloc ?_ _)); refine blk_far ?_ NB246_254.out _; (with_reducible repeat (first | refine blk_drewN ?_ _ | refine blk_drew ?_ | refine blk_alloc ?_ _)); refine blk_far ?_ NB246_254.out _; (with_reducible repeat (first | refine blk_drewN ?_ _ | refine blk_drew ?_ | refine blk_alloc ?_ _)); refine blk_far ?_ NB246_254.out _; (with_reducible repeat (first | refine blk_drewN ?_ _ | refine blk_drew ?_ | refine blk_alloc ?_ _)); refine blk_far ?_ NB246_254.out _; (with_reducible repeat (first | refine blk_drewN ?_ _ | refine blk_drew ?_ | refine blk_alloc ?_ _)); refine blk_far ?_ NB246_254.out _; (with_reducible repeat (first | refine blk_drewN ?_ _ | refine blk_drew ?_ | refine blk_alloc ?_ _)); exact BK246.out) hb); replace BK252 := Aside0.mk (blk_below (g := gb252) (o := .cells #[.slice Ao39 x253000_1.length co39, .int .i64 x253001_1] 24 (0, 0)) (by (with_reducible repeat (first | refine blk_drewN ?_ _ | refine blk_drew ?_ | refine blk_alloc ?_ _)); refine blk_far ?_ NB252_254.out _; (with_reducible repeat (first | refine blk_drewN ?_ _ | refine blk_drew ?_ | refine blk_alloc ?_ _)); refine blk_far ?_ NB252_254.out _; (with_reducible repeat (first | refine blk_drewN ?_ _ | refine blk_drew ?_ | refine blk_alloc ?_ _)); refine blk_far ?_ NB252_254.out _; (with_reducible repeat (first | refine blk_drewN ?_ _ | refine blk_drew ?_ | refine blk_alloc ?_ _)); refine blk_far ?_ NB252_254.out _; (with_reducible repeat (first | refine blk_drewN ?_ _ | refine blk_drew ?_ | refine blk_alloc ?_ _)); refine blk_far ?_ NB252_254.out _; (with_reducible repeat (first | refine blk_drewN ?_ _ | refine blk_drew ?_ | refine blk_alloc ?_ _)); exact BK252.out) hb); replace BK254 := Aside0.mk (blk_below (g := gb254) (o := .cells #[.int .i64 ((rd_T26 l1 x35_1).f0), .int .i64 ((rd_T26 l1 x35_1).f1), .int .i64 ((rd_T26 l1 x35_1).f2), .int .i64 ((rd_T26 l1 x35_1).f3), .string ((rd_T26 l1 x35_1).f4)] 26 (0, 0)) (bq_ BK254) hb); replace HB := sb_ HB hb; (try clear hb); (try clear hb2); (try clear hk); (try clear hi); (try clear ho0)) | ((with_reducible refine gate_dst (N := 12) rfl ?_); refine bx_ 12 #[.slice none 0 0, .int .i64 0] 24 ?_; intro gb260 hg w41 hbox hb; replace HO_253000 := Aside0.mk (Kd.R_below (rk_ HO_253000) hb); replace HO257 := Aside0.mk (Kd.R_below (rk_ HO257) hb); have BK260 := Aside0.mk (hbox); have GW260 := gw_ hg HB; have GE260 := gw_ hg HB; replace HB := sb_ HB hb; have NB245_260 := nl_ hg BK245; have NB260_245 := ng_ hg BK245; replace BK245 := kb_ BK245 hb; have NB246_260 := nl_ hg BK246; have NB260_246 := ng_ hg BK246; replace BK246 := kb_ BK246 hb; have NB252_260 := nl_ hg BK252; have NB260_252 := ng_ hg BK252; replace BK252 := kb_ BK252 hb; have NB254_260 := nl_ hg BK254; have NB260_254 := ng_ hg BK254; replace BK254 := kb_ BK254 hb; clear hb hbox hg; obtain ⟨Ao42, co42, eo42⟩ := Kd.R_slice HO257.out; subst eo42; have hnb43 := NB260_245.out; have hnc43 := NB245_260.out; have hnb44 := NB260_246.out; have hnc44 := NB246_260.out; have hnb45 := NB260_252.out; have hnc45 := NB252_260.out; have hnb46 := NB260_254.out; have hnc46 := NB254_260.out; have hcz47_0 := cz_ BK260 0 (.slice none 0 0); have hcz47_1 := cz_ BK260 1 (.int .i64 0); have hfz47_0 := blk_frozen BK260.out 0; have hfz47_1 := blk_frozen BK260.out 1; have hcz48_0 := cz_ BK252 0 (.slice Ao39 x253000_1.length co39); have hcz48_1 := cz_ BK252 1 (.int .i64 x253001_1); have hfz48_0 := blk_frozen BK252.out 0; have hfz48_1 := blk_frozen BK252.out 1))
        go_roundg k1
        case measure => have := HK1.out; omega
        case rel => exact ⟨(wrap64 (x35_1 + 1)), (x247001_1), (t255), (t258), (.slice Ao42 t255.length co42), rl_, H', ⟨by have := HK1.out; omega⟩, ⟨by (with_reducible repeat (first | apply Kd.R_alloc | apply Kd.R_drewN | apply Kd.R_drew)); exact Kd.R_mono (Kd.R_far (p := ⟨gb252, 1, none⟩) (Kd.R_far (p := ⟨gb252, 0, none⟩) (Kd.R_far (p := ⟨gb260, 1, none⟩) (Kd.R_far (p := ⟨gb260, 0, none⟩) (Kd.R_types (Kd.R_types HO257.out BK260.out (by decide)) BK252.out (by decide)) (fun _ hk => hk.1.2) (.slice Ao42 t255.length co42)) (fun _ hk => hk.1.2) (.int .i64 t258)) (fun _ hk => hk.2) (.slice Ao42 t255.length co42)) (fun _ hk => hk.2) (.int .i64 t258)) (fun _ hk => trivial)⟩, ⟨by (with_reducible repeat (first | refine blk_drewN ?_ _ | refine blk_drew ?_ | refine blk_alloc ?_ _)); refine blk_far ?_ NB245_252.out _; (with_reducible repeat (first | refine blk_drewN ?_ _ | refine blk_drew ?_ | refine blk_alloc ?_ _)); refine blk_far ?_ NB245_252.out _; (with_reducible repeat (first | refine blk_drewN ?_ _ | refine blk_drew ?_ | refine blk_alloc ?_ _)); refine blk_far ?_ NB245_260.out _; (with_reducible repeat (first | refine blk_drewN ?_ _ | refine blk_drew ?_ | refine blk_alloc ?_ _)); refine blk_far ?_ NB245_260.out _; (with_reducible repeat (first | refine blk_drewN ?_ _ | refine blk_drew ?_ | refine blk_alloc ?_ _)); exact BK245.out⟩, ⟨by (with_reducible repeat (first | refine blk_drewN ?_ _ | refine blk_drew ?_ | refine blk_alloc ?_ _)); refine blk_far ?_ NB246_252.out _; (with_reducible repeat (first | refine blk_drewN ?_ _ | refine blk_drew ?_ | refine blk_alloc ?_ _)); refine blk_far ?_ NB246_252.out _; (with_reducible repeat (first | refine blk_drewN ?_ _ | refine blk_drew ?_ | refine blk_alloc ?_ _)); refine blk_far ?_ NB246_260.out _; (with_reducible repeat (first | refine blk_drewN ?_ _ | refine blk_drew ?_ | refine blk_alloc ?_ _)); refine blk_far ?_ NB246_260.out _; (with_reducible repeat (first | refine blk_drewN ?_ _ | refine blk_drew ?_ | refine blk_alloc ?_ _)); exact BK246.out⟩, ⟨bq_ BK252⟩, ⟨pb_ HB⟩⟩
       rw [if_neg c30] at H
       have c30b0 : (t259 == 0) = false := beq_eq_false_iff_ne.mpr c30
       have c30b1 : (t259 != 0) = true := bne_iff_ne.mpr c30
       simp only [Option.some.injEq, Prod.mk.injEq] at H
       obtain ⟨rfl, rfl, rfl, rfl⟩ := H
       have p253 : 0 ≤ (x35_1 : Int) := ct_
       have q253 : x35_1 < (l1.length : Int) := ct_
       obtain ⟨ad253, e253, hx253_0, hx253_1, hx253_2, hx253_3, hx253_4⟩ := at_T26 HR1.out x35_1 p253 q253
       cases e253
       replace hx253_0 := pw_cell_below HB.out hx253_0
       replace hx253_1 := pw_cell_below HB.out hx253_1
       replace hx253_2 := pw_cell_below HB.out hx253_2
       replace hx253_3 := pw_cell_below HB.out hx253_3
       replace hx253_4 := pw_cell_below HB.out hx253_4
       replace p253 := eq_true p253
       replace q253 := eq_true q253
       go_wp2_with (first | ((with_reducible refine gate_dst (N := 11) rfl ?_); refine bx_ 11 #[.int .i64 0, .int .i64 0, .int .i64 0, .int .i64 0, .string (⟨#[]⟩ : ByteArray)] 26 ?_; intro gb254 hg w49 hbox hb; replace HO_253000 := Aside0.mk (Kd.R_below (rk_ HO_253000) hb); have BK254 := Aside0.mk (hbox); have GW254 := gw_ hg HB; have GE254 := gw_ hg HB; replace HB := sb_ HB hb; have NB245_254 := nl_ hg BK245; have NB254_245 := ng_ hg BK245; replace BK245 := kb_ BK245 hb; have NB246_254 := nl_ hg BK246; have NB254_246 := ng_ hg BK246; replace BK246 := kb_ BK246 hb; have NB252_254 := nl_ hg BK252; have NB254_252 := ng_ hg BK252; replace BK252 := kb_ BK252 hb; clear hb hbox hg; have hnb50 := NB254_245.out; have hnc50 := NB245_254.out; have hnb51 := NB254_246.out; have hnc51 := NB246_254.out; have hnb52 := NB254_252.out; have hnc52 := NB252_254.out; have hcz53_0 := cz_ BK254 0 (.int .i64 0); have hcz53_1 := cz_ BK254 1 (.int .i64 0); have hcz53_2 := cz_ BK254 2 (.int .i64 0); have hcz53_3 := cz_ BK254 3 (.int .i64 0); have hcz53_4 := cz_ BK254 4 (.string (⟨#[]⟩ : ByteArray)); have hfz53_0 := blk_frozen BK254.out 0; have hfz53_1 := blk_frozen BK254.out 1; have hfz53_2 := blk_frozen BK254.out 2; have hfz53_3 := blk_frozen BK254.out 3; have hfz53_4 := blk_frozen BK254.out 4; have hnb54 := NB252_245.out; have hnc54 := NB245_252.out; have hnb55 := NB252_246.out; have hnc55 := NB246_252.out; have hcz56_0 := cz_ BK252 0 (u253000); have hcz56_1 := cz_ BK252 1 (.int .i64 x253001_1); have hfz56_0 := blk_frozen BK252.out 0; have hfz56_1 := blk_frozen BK252.out 1; obtain ⟨Ao57, co57, eo57⟩ := Kd.R_slice HO_253000.out; subst eo57) | ((with_reducible refine gate_callee (f := 24) rfl ?_); refine gl_ 43 Tryd.func24 #[.agg #[.slice Ao57 x253000_1.length co57, .int .i64 x253001_1], .agg #[.int .i64 ((rd_T26 l1 x35_1).f0), .int .i64 ((rd_T26 l1 x35_1).f1), .int .i64 ((rd_T26 l1 x35_1).f2), .int .i64 ((rd_T26 l1 x35_1).f3), .string ((rd_T26 l1 x35_1).f4)]] ?_; (with_reducible refine (segment_apply.calls k1 _ _ x253000_1 x253001_1 ((rd_T26 l1 x35_1).f0) ((rd_T26 l1 x35_1).f1) ((rd_T26 l1 x35_1).f2) ((rd_T26 l1 x35_1).f3) ((rd_T26 l1 x35_1).f4) t255 t258 t259 _ ?side1 ?side2 A29.out).mono ?_); (case side1 => refine (Kd.R_reads' (e := 46) (base := w.heap.size) (ok := fun k_ => True) (n := x253000_1.length) (c := co57) ?_).2.2; exact (by (with_reducible repeat (first | apply Kd.R_alloc | apply Kd.R_drewN | apply Kd.R_drew)); exact (Kd.R_mono (Kd.R_far (p := ⟨gb254, 4, none⟩) (Kd.R_far (p := ⟨gb254, 3, none⟩) (Kd.R_far (p := ⟨gb254, 2, none⟩) (Kd.R_far (p := ⟨gb254, 1, none⟩) (Kd.R_far (p := ⟨gb254, 0, none⟩) (Kd.R_types HO_253000.out BK254.out (by decide)) (fun _ hk => hk.2) (.int .i64 ((rd_T26 l1 x35_1).f0))) (fun _ hk => hk.2) (.int .i64 ((rd_T26 l1 x35_1).f1))) (fun _ hk => hk.2) (.int .i64 ((rd_T26 l1 x35_1).f2))) (fun _ hk => hk.2) (.int .i64 ((rd_T26 l1 x35_1).f3))) (fun _ hk => hk.2) (.string ((rd_T26 l1 x35_1).f4))) (fun _ h_ => h_.1)))); (case side2 => exact (Kd.R_reads' HO_253000.out).2.1); rintro e w58 ⟨v256, rfl, ho0, hb⟩; refine ⟨_, rfl, ?_⟩; have HO257 := Aside0.mk (Kd.R_lower (Kd.R_new' ho0 (Kd.R_lt (by (with_reducible repeat (first | apply Kd.R_alloc | apply Kd.R_drewN | apply Kd.R_drew)); exact (Kd.R_mono (Kd.R_far (p := ⟨gb254, 4, none⟩) (Kd.R_far (p := ⟨gb254, 3, none⟩) (Kd.R_far (p := ⟨gb254, 2, none⟩) (Kd.R_far (p := ⟨gb254, 1, none⟩) (Kd.R_far (p := ⟨gb254, 0, none⟩) (Kd.R_types HO_253000.out BK254.out (by decide)) (fun _ hk => hk.2) (.int .i64 ((rd_T26 l1 x35_1).f0))) (fun _ hk => hk.2) (.int .i64 ((rd_T26 l1 x35_1).f1))) (fun _ hk => hk.2) (.int .i64 ((rd_T26 l1 x35_1).f2))) (fun _ hk => hk.2) (.int .i64 ((rd_T26 l1 x35_1).f3))) (fun _ hk => hk.2) (.string ((rd_T26 l1 x35_1).f4))) (fun _ h_ => h_.1))))) (below_size (pb_ HB))); replace HO_253000 := Aside0.mk (Kd.R_elder' (by (with_reducible repeat (first | apply Kd.R_alloc | apply Kd.R_drewN | apply Kd.R_drew)); exact (Kd.R_mono (Kd.R_far (p := ⟨gb254, 4, none⟩) (Kd.R_far (p := ⟨gb254, 3, none⟩) (Kd.R_far (p := ⟨gb254, 2, none⟩) (Kd.R_far (p := ⟨gb254, 1, none⟩) (Kd.R_far (p := ⟨gb254, 0, none⟩) (Kd.R_types HO_253000.out BK254.out (by decide)) (fun _ hk => hk.2) (.int .i64 ((rd_T26 l1 x35_1).f0))) (fun _ hk => hk.2) (.int .i64 ((rd_T26 l1 x35_1).f1))) (fun _ hk => hk.2) (.int .i64 ((rd_T26 l1 x35_1).f2))) (fun _ hk => hk.2) (.int .i64 ((rd_T26 l1 x35_1).f3))) (fun _ hk => hk.2) (.string ((rd_T26 l1 x35_1).f4))) (fun _ h_ => h_.1))) (Kd.R_base ho0) hb); replace BK245 := Aside0.mk (blk_below (g := gb245) (o := .cells #[.slice A0_0 l0_0.length c0_0, .int .i64 a0_1] 24 (0, 0)) (by (with_reducible repeat (first | refine blk_drewN ?_ _ | refine blk_drew ?_ | refine blk_alloc ?_ _)); refine blk_far ?_ NB245_254.out _; (with_reducible repeat (first | refine blk_drewN ?_ _ | refine blk_drew ?_ | refine blk_alloc ?_ _)); refine blk_far ?_ NB245_254.out _; (with_reducible repeat (first | refine blk_drewN ?_ _ | refine blk_drew ?_ | refine blk_alloc ?_ _)); refine blk_far ?_ NB245_254.out _; (with_reducible repeat (first | refine blk_drewN ?_ _ | refine blk_drew ?_ | refine blk_alloc ?_ _)); refine blk_far ?_ NB245_254.out _; (with_reducible repeat (first | refine blk_drewN ?_ _ | refine blk_drew ?_ | refine blk_alloc ?_ _)); refine blk_far ?_ NB245_254.out _; (with_reducible repeat (first | refine blk_drewN ?_ _ | refine blk_drew ?_ | refine blk_alloc ?_ _)); exact BK245.out) hb); replace BK246 := Aside0.mk (blk_below (g := gb246) (o := .cells #[.slice none 0 0, .int .i64 x247001_1] 24 (0, 0)) (by (with_reducible repeat (first | refine blk_drewN ?_ _ | refine blk_drew ?_ | refine blk_alloc ?_ _)); refine blk_far ?_ NB246_254.out _; (with_reducible repeat (first | refine blk_drewN ?_ _ | refine blk_drew ?_ | refine blk_alloc ?_ _)); refine blk_far ?_ NB246_254.out _; (with_reducible repeat (first | refine blk_drewN ?_ _ | refine blk_drew ?_ | refine blk_alloc ?_ _)); refine blk_far ?_ NB246_254.out _; (with_reducible repeat (first | refine blk_drewN ?_ _ | refine blk_drew ?_ | refine blk_alloc ?_ _)); refine blk_far ?_ NB246_254.out _; (with_reducible repeat (first | refine blk_drewN ?_ _ | refine blk_drew ?_ | refine blk_alloc ?_ _)); refine blk_far ?_ NB246_254.out _; (with_reducible repeat (first | refine blk_drewN ?_ _ | refine blk_drew ?_ | refine blk_alloc ?_ _)); exact BK246.out) hb); replace BK252 := Aside0.mk (blk_below (g := gb252) (o := .cells #[.slice Ao57 x253000_1.length co57, .int .i64 x253001_1] 24 (0, 0)) (by (with_reducible repeat (first | refine blk_drewN ?_ _ | refine blk_drew ?_ | refine blk_alloc ?_ _)); refine blk_far ?_ NB252_254.out _; (with_reducible repeat (first | refine blk_drewN ?_ _ | refine blk_drew ?_ | refine blk_alloc ?_ _)); refine blk_far ?_ NB252_254.out _; (with_reducible repeat (first | refine blk_drewN ?_ _ | refine blk_drew ?_ | refine blk_alloc ?_ _)); refine blk_far ?_ NB252_254.out _; (with_reducible repeat (first | refine blk_drewN ?_ _ | refine blk_drew ?_ | refine blk_alloc ?_ _)); refine blk_far ?_ NB252_254.out _; (with_reducible repeat (first | refine blk_drewN ?_ _ | refine blk_drew ?_ | refine blk_alloc ?_ _)); refine blk_far ?_ NB252_254.out _; (with_reducible repeat (first | refine blk_drewN ?_ _ | refine blk_drew ?_ | refine blk_alloc ?_ _)); exact BK252.out) hb); replace BK254 := Aside0.mk (blk_below (g := gb254) (o := .cells #[.int .i64 ((rd_T26 l1 x35_1).f0), .int .i64 ((rd_T26 l1 x35_1).f1), .int .i64 ((rd_T26 l1 x35_1).f2), .int .i64 ((rd_T26 l1 x35_1).f3), .string ((rd_T26 l1 x35_1).f4)] 26 (0, 0)) (bq_ BK254) hb); replace HB := sb_ HB hb; (try clear hb); (try clear hb2); (try clear hk); (try clear hi); (try clear ho0)) | ((with_reducible refine gate_dst (N := 12) rfl ?_); refine bx_ 12 #[.slice none 0 0, .int .i64 0] 24 ?_; intro gb260 hg w59 hbox hb; replace HO_253000 := Aside0.mk (Kd.R_below (rk_ HO_253000) hb); replace HO257 := Aside0.mk (Kd.R_below (rk_ HO257) hb); have BK260 := Aside0.mk (hbox); have GW260 := gw_ hg HB; have GE260 := gw_ hg HB; replace HB := sb_ HB hb; have NB245_260 := nl_ hg BK245; have NB260_245 := ng_ hg BK245; replace BK245 := kb_ BK245 hb; have NB246_260 := nl_ hg BK246; have NB260_246 := ng_ hg BK246; replace BK246 := kb_ BK246 hb; have NB252_260 := nl_ hg BK252; have NB260_252 := ng_ hg BK252; replace BK252 := kb_ BK252 hb; have NB254_260 := nl_ hg BK254; have NB260_254 := ng_ hg BK254; replace BK254 := kb_ BK254 hb; clear hb hbox hg; obtain ⟨Ao60, co60, eo60⟩ := Kd.R_slice HO257.out; subst eo60; have hnb61 := NB260_245.out; have hnc61 := NB245_260.out; have hnb62 := NB260_246.out; have hnc62 := NB246_260.out; have hnb63 := NB260_252.out; have hnc63 := NB252_260.out; have hnb64 := NB260_254.out; have hnc64 := NB254_260.out; have hcz65_0 := cz_ BK260 0 (.slice none 0 0); have hcz65_1 := cz_ BK260 1 (.int .i64 0); have hfz65_0 := blk_frozen BK260.out 0; have hfz65_1 := blk_frozen BK260.out 1; have hnb66 := NB246_245.out; have hnc66 := NB245_246.out; have hcz67_0 := cz_ BK246 0 (.slice none 0 0); have hcz67_1 := cz_ BK246 1 (.int .i64 x247001_1); have hfz67_0 := blk_frozen BK246.out 0; have hfz67_1 := blk_frozen BK246.out 1))
       refine bodyPost_ret (results_ctt rfl _ _ gb246 24 #[.slice none 0 0, .int .i64 0] (0, 0) _ rfl (bq_ BK246) Tryd.underlying24 rfl (by kernel_rfl)) rfl ?_
       exact ⟨_, er_, by first | exact Kd.R_nil _ _ _ _ _ | exact Kd.N_nil _ _ _ _ _ | exact Kd.V_nil _ _ _ _ _ | exact Kd.Q_nil _ _ _ _ _ | exact Kd.S_nil _ _ _ _ _, pb_ HB⟩
      rw [if_neg c28] at H
      exact absurd H (by simp)
     rw [if_neg c27] at H
     exact absurd H (by simp)
    rw [if_neg c26] at H
    have c26b0 : decide (x35_1 < (l1.length : Int)) = false := decide_eq_false c26
    clear c26
    simp only [Option.some.injEq, Prod.mk.injEq] at H
    obtain ⟨rfl, rfl, rfl, rfl⟩ := H
    have hnb68 := NB252_245.out
    have hnc68 := NB245_252.out
    have hnb69 := NB252_246.out
    have hnc69 := NB246_252.out
    have hcz70_0 := cz_ BK252 0 (u253000)
    have hcz70_1 := cz_ BK252 1 (.int .i64 x253001_1)
    have hfz70_0 := blk_frozen BK252.out 0
    have hfz70_1 := blk_frozen BK252.out 1
    obtain ⟨Ao71, co71, eo71⟩ := Kd.R_slice HO_253000.out
    subst eo71
    have hnb72 := NB246_245.out
    have hnc72 := NB245_246.out
    have hcz73_0 := cz_ BK246 0 (.slice none 0 0)
    have hcz73_1 := cz_ BK246 1 (.int .i64 x247001_1)
    have hfz73_0 := blk_frozen BK246.out 0
    have hfz73_1 := blk_frozen BK246.out 1
    go_wp2
    refine bodyPost_ret (results_ctt rfl _ _ gb246 24 #[.slice Ao71 x253000_1.length co71, .int .i64 x253001_1] (0, 0) _ rfl (bq_ BK246) Tryd.underlying24 rfl (by kernel_rfl)) rfl ?_
    exact ⟨_, er_, by (with_reducible repeat (first | apply Kd.R_alloc | apply Kd.R_drewN | apply Kd.R_drew)); exact Kd.R_mono (Kd.R_far (p := ⟨gb246, 1, none⟩) (Kd.R_far (p := ⟨gb246, 0, none⟩) (Kd.R_types HO_253000.out BK246.out (by decide)) (fun _ hk => hk.2) (.slice Ao71 x253000_1.length co71)) (fun _ hk => hk.2) (.int .i64 x253001_1)) (fun _ hk => trivial), pb_ HB⟩
 rw [if_neg c4] at H
 have c4b0 : (t248 == 0) = false := beq_eq_false_iff_ne.mpr c4
 have c4b1 : (t248 != 0) = true := bne_iff_ne.mpr c4
 simp only [Option.some.injEq, Prod.mk.injEq] at H
 obtain ⟨rfl, rfl, rfl, rfl⟩ := H
 go_enter Tryd.func11, Tryd.ntmps11
 go_wp2_with (first | ((with_reducible refine gate_dst (N := 2) rfl ?_); refine bx_ 2 #[.slice A0_0 l0_0.length c0_0, .int .i64 a0_1] 24 ?_; intro gb245 hg w74 hbox hb; have BK245 := Aside0.mk (hbox); have GW245 := gw_ hg HB; have GE245 := gw_ hg HB; replace HB := sb_ HB hb; clear hb hbox hg) | ((with_reducible refine gate_dst (N := 4) rfl ?_); refine bx_ 4 #[.slice none 0 0, .int .i64 0] 24 ?_; intro gb246 hg w75 hbox hb; have BK246 := Aside0.mk (hbox); have GW246 := gw_ hg HB; have GE246 := gw_ hg HB; replace HB := sb_ HB hb; have NB245_246 := nl_ hg BK245; have NB246_245 := ng_ hg BK245; replace BK245 := kb_ BK245 hb; clear hb hbox hg; have hnb76 := NB245_246.out; have hnc76 := NB246_245.out; have hcz77_0 := cz_ BK245 0 (.slice A0_0 l0_0.length c0_0); have hcz77_1 := cz_ BK245 1 (.int .i64 a0_1); have hfz77_0 := blk_frozen BK245.out 0; have hfz77_1 := blk_frozen BK245.out 1) | ((with_reducible refine gate_callee (f := 22) rfl ?_); refine gl_ 16 Tryd.func22 #[.agg #[.slice A0_0 l0_0.length c0_0, .int .i64 a0_1]] ?_; (with_reducible refine (segment_CheckStore.calls k _ _ l0_0 a0_1 t247 t248 _ ?side1 ?side2 A3.out).mono ?_); (case side1 => exact pc_ (Kd.C_below HR0_0.out HB.out)); (case side2 => exact HC0_0.out); rintro e w78 ⟨rfl, hb⟩; refine ⟨_, rfl, ?_⟩; replace BK245 := kb_ BK245 hb; replace BK246 := kb_ BK246 hb; replace HB := sb_ HB hb; (try clear hb); (try clear hb2); (try clear hk); (try clear hi); have hcz79_0 := cz_ BK246 0 (.slice none 0 0); have hcz79_1 := cz_ BK246 1 (.int .i64 0); have hfz79_0 := blk_frozen BK246.out 0; have hfz79_1 := blk_frozen BK246.out 1))
 refine bodyPost_ret (results_ctt rfl _ _ gb246 24 #[.slice none 0 0, .int .i64 0] (0, 0) _ rfl (bq_ BK246) Tryd.underlying24 rfl (by kernel_rfl)) rfl ?_
 exact ⟨_, er_, by first | exact Kd.R_nil _ _ _ _ _ | exact Kd.N_nil _ _ _ _ _ | exact Kd.V_nil _ _ _ _ _ | exact Kd.Q_nil _ _ _ _ _ | exact Kd.S_nil _ _ _ _ _, pb_ HB⟩
def strings_trimLeftByte.l0 : Nat → ByteArray → Int → Option (ByteArray)
  | 0, _, _ => none
  | k + 1, x0, x1 => if (x0.size : Int) > 0 then (if 0 < (x0.size : Int) then (if (bt x0 0) = x1 then (if 1 ≤ (x0.size : Int) then (strings_trimLeftByte.l0 k (x0.extract 1 x0.size) x1) else (none)) else (some x0)) else (none)) else (some x0)
def strings_trimLeftByte.f (k : Nat) (a0 : ByteArray) (a1 : Int) : Option (ByteArray) := strings_trimLeftByte.l0 k a0 a1
set_option maxHeartbeats 8000000 in
set_option maxRecDepth 100000 in
theorem strings_trimLeftByte.calls (k : Nat) (a0 : ByteArray) (a1 : Int) (r : ByteArray) (w : World) (h : strings_trimLeftByte.f k a0 a1 = some r) :
  Calls Tryd.prog 30 #[.string a0, .int .u8 a1] w fun e w' => e = .returned (.string r) ∧ Drawn0 w w' := by
 have H : (strings_trimLeftByte.l0 k a0 a1) = some r := h
 clear h
 have H' := Aside0.mk H
 clear H
 go_enter Tryd.func30, Tryd.ntmps30
 go_wp2
 go_loopg [0] k (fun kq v0 w' => ∃ (x0_1 : ByteArray), v0 = .string x0_1 ∧ Aside0 (strings_trimLeftByte.l0 kq x0_1 a1 = some r) ∧ Aside0 (kq ≤ k) ∧ Drawn0 w w')
 case atStart => exact ⟨(a0), rl_, H', ⟨Nat.le_refl _⟩, by repeat (first | exact Drawn0.refl _ | apply Drawn0.step)⟩
 case round =>
  clear H'
  try clear p2
  obtain ⟨x0_1, rfl, HA, HK1, ⟨m1, rfl⟩⟩ := hrel
  cases gk with
  | zero => exact absurd HA.out (by simp [strings_trimLeftByte.l0])
  | succ k1 =>
   have H := HA.out
   clear HA
   simp only [strings_trimLeftByte.l0] at H
   by_cases c3 : (x0_1.size : Int) > 0
   ·
    rw [if_pos c3] at H
    have c3b0 : decide (0 < (x0_1.size : Int)) = true := decide_eq_true c3
    have c3b1 : decide (0 < x0_1.size) = true := decide_eq_true (by omega)
    clear c3
    by_cases c4 : 0 < (x0_1.size : Int)
    ·
     rw [if_pos c4] at H
     have c4b0 : decide (0 < (x0_1.size : Int)) = true := decide_eq_true c4
     have c4b1 : decide (0 < x0_1.size) = true := decide_eq_true (by omega)
     clear c4
     by_cases c6 : (bt x0_1 0) = a1
     ·
      rw [if_pos c6] at H
      have c6b0 : ((bt x0_1 0) == a1) = true := beq_iff_eq.mpr c6
      have c6b1 : ((bt x0_1 0) != a1) = false := bne_eq_false_iff_eq.mpr c6
      clear c6
      by_cases c7 : 1 ≤ (x0_1.size : Int)
      ·
       rw [if_pos c7] at H
       have c7b0 := eq_true c7
       have c7b1 : decide (1 ≤ (x0_1.size : Int)) = true := decide_eq_true c7
       clear c7
       have H' := Aside0.mk H
       clear H
       have p5 : 0 ≤ (0 : Int) := (by omega)
       have q5 : 0 < x0_1.size := (by have : (0 : Int) < (x0_1.size : Int) := ct_; omega)
       have hx5 : ∀ h : 0 < x0_1.size, ((x0_1[0]'h).toNat : Int) = bt x0_1 0 := bt_at x0_1 0
       clear p5
       have qi5 : (0 < (x0_1.size : Int)) = True := eq_true (ct_)
       replace q5 := eq_true q5
       go_wp2
       go_roundg k1
       case measure => have := HK1.out; omega
       case rel => exact ⟨(x0_1.extract 1 x0_1.size), rl_, H', ⟨by have := HK1.out; omega⟩, by repeat (first | exact Drawn0.refl _ | apply Drawn0.step)⟩
      rw [if_neg c7] at H
      exact absurd H (by simp)
     rw [if_neg c6] at H
     have c6b0 : ((bt x0_1 0) == a1) = false := beq_eq_false_iff_ne.mpr c6
     have c6b1 : ((bt x0_1 0) != a1) = true := bne_iff_ne.mpr c6
     obtain rfl := Option.some.inj H
     have p5 : 0 ≤ (0 : Int) := (by omega)
     have q5 : 0 < x0_1.size := (by have : (0 : Int) < (x0_1.size : Int) := ct_; omega)
     have hx5 : ∀ h : 0 < x0_1.size, ((x0_1[0]'h).toNat : Int) = bt x0_1 0 := bt_at x0_1 0
     clear p5
     have qi5 : (0 < (x0_1.size : Int)) = True := eq_true (ct_)
     replace q5 := eq_true q5
     go_wp2
     go_ret
     exact ⟨by first | rfl | (simp; done) | (simp [*]; done), by repeat (first | exact Drawn0.refl _ | apply Drawn0.step)⟩
    rw [if_neg c4] at H
    exact absurd H (by simp)
   rw [if_neg c3] at H
   have c3b0 : decide (0 < (x0_1.size : Int)) = false := decide_eq_false c3
   have c3b1 : decide (0 < x0_1.size) = false := decide_eq_false (by omega)
   clear c3
   obtain rfl := Option.some.inj H
   go_wp2
   go_ret
   exact ⟨by first | rfl | (simp; done) | (simp [*]; done), by repeat (first | exact Drawn0.refl _ | apply Drawn0.step)⟩
def strings_trimRightByte.l0 : Nat → ByteArray → Int → Option (ByteArray)
  | 0, _, _ => none
  | k + 1, x0, x1 => if (x0.size : Int) > 0 then (if 0 ≤ (wrap64 ((x0.size : Int) - 1)) then (if (wrap64 ((x0.size : Int) - 1)) < (x0.size : Int) then (if (bt x0 (wrap64 ((x0.size : Int) - 1))) = x1 then (if (wrap64 ((x0.size : Int) - 1)) ≤ (x0.size : Int) then (strings_trimRightByte.l0 k (x0.extract 0 ((wrap64 ((x0.size : Int) - 1)) : Int).toNat) x1) else (none)) else (some x0)) else (none)) else (none)) else (some x0)
def strings_trimRightByte.f (k : Nat) (a0 : ByteArray) (a1 : Int) : Option (ByteArray) := strings_trimRightByte.l0 k a0 a1
set_option maxHeartbeats 8000000 in
set_option maxRecDepth 100000 in
theorem strings_trimRightByte.calls (k : Nat) (a0 : ByteArray) (a1 : Int) (r : ByteArray) (w : World) (h : strings_trimRightByte.f k a0 a1 = some r) :
  Calls Tryd.prog 31 #[.string a0, .int .u8 a1] w fun e w' => e = .returned (.string r) ∧ Drawn0 w w' := by
 have H : (strings_trimRightByte.l0 k a0 a1) = some r := h
 clear h
 have H' := Aside0.mk H
 clear H
 go_enter Tryd.func31, Tryd.ntmps31
 go_wp2
 go_loopg [0] k (fun kq v0 w' => ∃ (x0_1 : ByteArray), v0 = .string x0_1 ∧ Aside0 (strings_trimRightByte.l0 kq x0_1 a1 = some r) ∧ Aside0 (kq ≤ k) ∧ Drawn0 w w')
 case atStart => exact ⟨(a0), rl_, H', ⟨Nat.le_refl _⟩, by repeat (first | exact Drawn0.refl _ | apply Drawn0.step)⟩
 case round =>
  clear H'
  try clear p2
  obtain ⟨x0_1, rfl, HA, HK1, ⟨m1, rfl⟩⟩ := hrel
  cases gk with
  | zero => exact absurd HA.out (by simp [strings_trimRightByte.l0])
  | succ k1 =>
   have H := HA.out
   clear HA
   simp only [strings_trimRightByte.l0] at H
   by_cases c3 : (x0_1.size : Int) > 0
   ·
    rw [if_pos c3] at H
    have c3b0 : decide (0 < (x0_1.size : Int)) = true := decide_eq_true c3
    have c3b1 : decide (0 < x0_1.size) = true := decide_eq_true (by omega)
    clear c3
    obtain ⟨ji4, hji4⟩ : ∃ j_ : Int, (wrap64 ((x0_1.size : Int) - 1)) = j_ := ⟨_, rfl⟩
    replace H : (if 0 ≤ (ji4) then (if (ji4) < (x0_1.size : Int) then (if (bt x0_1 (ji4)) = a1 then (if (ji4) ≤ (x0_1.size : Int) then (strings_trimRightByte.l0 k1 (x0_1.extract 0 ((ji4) : Int).toNat) a1) else (none)) else (some x0_1)) else (none)) else (none)) = some r := by first | (rw [hji4] at H; exact H) | (simp only [hji4] at H ⊢; exact H)
    have hji4w : (IntKind.i64.wrap ((x0_1.size : Int) - 1)) = ji4 := (i64_w _).trans hji4
    by_cases c5 : 0 ≤ (ji4)
    ·
     rw [if_pos c5] at H
     have c5b0 : decide (0 ≤ (ji4)) = true := decide_eq_true c5
     clear c5
     by_cases c6 : (ji4) < (x0_1.size : Int)
     ·
      rw [if_pos c6] at H
      have c6b0 : decide ((ji4) < (x0_1.size : Int)) = true := decide_eq_true c6
      clear c6
      by_cases c8 : (bt x0_1 (ji4)) = a1
      ·
       rw [if_pos c8] at H
       have c8b0 : ((bt x0_1 (ji4)) == a1) = true := beq_iff_eq.mpr c8
       have c8b1 : ((bt x0_1 (ji4)) != a1) = false := bne_eq_false_iff_eq.mpr c8
       clear c8
       have c9b0 := eq_true (ct_ : 0 ≤ (ji4))
       by_cases c10 : (ji4) ≤ (x0_1.size : Int)
       ·
        rw [if_pos c10] at H
        have c10b0 := eq_true c10
        have c10b1 : decide ((ji4) ≤ (x0_1.size : Int)) = true := decide_eq_true c10
        clear c10
        have H' := Aside0.mk H
        clear H
        have p7 : 0 ≤ ((ji4) : Int) := ct_
        have q7 : (ji4) < (x0_1.size : Int) := ct_
        have hx7 := bt_at x0_1 (ji4)
        replace p7 := eq_true p7
        replace q7 := eq_true q7
        go_wp2
        go_roundg k1
        case measure => have := HK1.out; omega
        case rel => exact ⟨(x0_1.extract 0 ((ji4) : Int).toNat), (by first | rfl | (simp; done) | (simp only [← hji4] <;> (first | rfl | simp)) | (simp [*]; done)), H', ⟨by have := HK1.out; omega⟩, by repeat (first | exact Drawn0.refl _ | apply Drawn0.step)⟩
       rw [if_neg c10] at H
       exact absurd H (by simp)
      rw [if_neg c8] at H
      have c8b0 : ((bt x0_1 (ji4)) == a1) = false := beq_eq_false_iff_ne.mpr c8
      have c8b1 : ((bt x0_1 (ji4)) != a1) = true := bne_iff_ne.mpr c8
      obtain rfl := Option.some.inj H
      have p7 : 0 ≤ ((ji4) : Int) := ct_
      have q7 : (ji4) < (x0_1.size : Int) := ct_
      have hx7 := bt_at x0_1 (ji4)
      replace p7 := eq_true p7
      replace q7 := eq_true q7
      go_wp2
      go_ret
      exact ⟨by first | rfl | (simp; done) | (simp only [← hji4] <;> (first | rfl | simp)) | (simp [*]; done), by repeat (first | exact Drawn0.refl _ | apply Drawn0.step)⟩
     rw [if_neg c6] at H
     exact absurd H (by simp)
    rw [if_neg c5] at H
    exact absurd H (by simp)
   rw [if_neg c3] at H
   have c3b0 : decide (0 < (x0_1.size : Int)) = false := decide_eq_false c3
   have c3b1 : decide (0 < x0_1.size) = false := decide_eq_false (by omega)
   clear c3
   obtain rfl := Option.some.inj H
   go_wp2
   go_ret
   exact ⟨by first | rfl | (simp; done) | (simp [*]; done), by repeat (first | exact Drawn0.refl _ | apply Drawn0.step)⟩

-- NOT PRINTED: function 32 (strings_makeASCIISet)

-- NOT PRINTED: function 46 (strings_asciiSet_contains)

-- NOT PRINTED: function 33 (strings_trimLeftASCII)

-- NOT PRINTED: function 34 (strings_trimRightASCII)

-- NOT PRINTED: function 65 (utf8_decodeRuneInStringSlow)

-- NOT PRINTED: function 47 (utf8_DecodeRuneInString)

-- NOT PRINTED: function 87 (bytealg_IndexByteString)

-- NOT PRINTED: function 86 (stringslite_IndexByte)

-- NOT PRINTED: function 79 (strings_IndexByte)
mutual
def strings_Trim.j0 : Nat → ByteArray → ByteArray → Bool → Option (ByteArray)
  | 0, _, _, _ => none
  | k + 1, x0, x1, x12 => if x12 = true then (some x0) else (if (x1.size : Int) = 1 then (if 0 < (x1.size : Int) then (strings_Trim.j1 k x0 x1 (decide ((bt x1 0) < 128))) else (none)) else (strings_Trim.j1 k x0 x1 false))
def strings_Trim.j1 : Nat → ByteArray → ByteArray → Bool → Option (ByteArray)
  | 0, _, _, _ => none
  | k + 1, x0, x1, x21 => if x21 = true then (if 0 < (x1.size : Int) then ((strings_trimRightByte.f k x0 (bt x1 0)).bind fun t262 => ((strings_trimLeftByte.f k t262 (bt x1 0)).bind fun t263 => (some t263))) else (none)) else (none)
end
def strings_Trim.f (k : Nat) (a0 : ByteArray) (a1 : ByteArray) : Option (ByteArray) := if a0.toList = ([] : List UInt8) then (strings_Trim.j0 k a0 a1 true) else (strings_Trim.j0 k a0 a1 (a1.toList == ([] : List UInt8)))
set_option maxHeartbeats 8000000 in
set_option maxRecDepth 100000 in
theorem strings_Trim.calls (k : Nat) (a0 : ByteArray) (a1 : ByteArray) (r : ByteArray) (w : World) (h : strings_Trim.f k a0 a1 = some r) :
  Calls Tryd.prog 17 #[.string a0, .string a1] w fun e w' => e = .returned (.string r) ∧ Below w.heap.size w w' := by
 have HB := Aside0.mk (Below.refl w.heap.size w)
 have H : (if a0.toList = ([] : List UInt8) then (strings_Trim.j0 k a0 a1 true) else (strings_Trim.j0 k a0 a1 (a1.toList == ([] : List UInt8)))) = some r := h
 clear h
 have HC3 := Aside0.mk H
 clear H
 go_enter Tryd.func17, Tryd.ntmps17
 go_upto_region 1 with (fail)
 repeat (go_quiet (fail); go_upto_region 1 with (fail))
 go_cut [12] (fun v12 wc => ∃ (kq : Nat) (x12_2 : Bool), v12 = .bool x12_2 ∧ Aside0 (strings_Trim.j0 kq a0 a1 x12_2 = some r) ∧ Aside0 (kq ≤ k) ∧ Aside0 (Below w.heap.size w wc))
 case first =>
  have H := HC3.out
  clear HC3
  by_cases c4 : a0.toList = ([] : List UInt8)
  ·
   rw [if_pos c4] at H
   have c4b0 : (a0.toList == ([] : List UInt8)) = true := beq_iff_eq.mpr c4
   have c4b1 : (a0.toList != ([] : List UInt8)) = false := bne_eq_false_iff_eq.mpr c4
   clear c4
   (first | rw [c4b0] | (simp only [i64_w, i32_w]; rw [c4b0]) | skip)
   have H' := Aside0.mk H
   clear H
   go_wp2
   repeat (go_quiet (fail); try go_wp2)
   go_meet
   case rel => exact ⟨_, (true), rl_, H', ⟨by first | omega | exact Nat.le_refl _⟩, ⟨pb_ HB⟩⟩
  rw [if_neg c4] at H
  have c4b0 : (a0.toList == ([] : List UInt8)) = false := beq_eq_false_iff_ne.mpr c4
  have c4b1 : (a0.toList != ([] : List UInt8)) = true := bne_iff_ne.mpr c4
  (first | rw [c4b0] | (simp only [i64_w, i32_w]; rw [c4b0]) | skip)
  have H' := Aside0.mk H
  clear H
  go_wp2
  repeat (go_quiet (fail); try go_wp2)
  go_meet
  case rel => exact ⟨_, ((a1.toList == ([] : List UInt8))), rl_, H', ⟨by first | omega | exact Nat.le_refl _⟩, ⟨pb_ HB⟩⟩
 case rest =>
  clear HC3
  try clear c1
  try clear p2
  try clear c4
  try clear c4b0
  try clear c4b1
  obtain ⟨kq, x12_2, rfl, HA, HJ2, HB⟩ := hcut
  cases kq with
  | zero => exact absurd HA.out (by simp [strings_Trim.j0])
  | succ kj2 =>
   have H := HA.out
   clear HA
   simp only [strings_Trim.j0] at H
   by_cases c5 : x12_2 = true
   ·
    subst c5
    have H1 : (some a0) = some r := by rw [if_pos rfl] at H; exact H
    clear H
    have H := H1
    clear H1
    obtain rfl := Option.some.inj H
    go_wp2
    repeat (go_quiet (fail); try go_wp2)
    go_ret
    exact ⟨er_, pb_ HB⟩
   replace c5 := Bool.eq_false_iff.mpr c5
   subst c5
   have H1 : (if (a1.size : Int) = 1 then (if 0 < (a1.size : Int) then (strings_Trim.j1 kj2 a0 a1 (decide ((bt a1 0) < 128))) else (none)) else (strings_Trim.j1 kj2 a0 a1 false)) = some r := by rw [if_neg (show ¬ (false = true) by decide)] at H; exact H
   clear H
   have H := H1
   clear H1
   have HC6 := Aside0.mk H
   clear H
   go_upto_region 3 with (fail)
   repeat (go_quiet (fail); go_upto_region 3 with (fail))
   go_cut [21] (fun v21 wc => ∃ (kq : Nat) (x21_5 : Bool), v21 = .bool x21_5 ∧ Aside0 (strings_Trim.j1 kq a0 a1 x21_5 = some r) ∧ Aside0 (kq ≤ kj2) ∧ Aside0 (Below w.heap.size w wc))
   case first =>
    have H := HC6.out
    clear HC6
    by_cases c7 : (a1.size : Int) = 1
    ·
     rw [if_pos c7] at H
     have c7b0 : ((a1.size : Int) == 1) = true := beq_iff_eq.mpr c7
     have c7b1 : ((a1.size : Int) != 1) = false := bne_eq_false_iff_eq.mpr c7
     clear c7
     (first | rw [c7b0] | (simp only [i64_w, i32_w]; rw [c7b0]) | skip)
     by_cases c8 : 0 < (a1.size : Int)
     ·
      rw [if_pos c8] at H
      have c8b0 : decide (0 < (a1.size : Int)) = true := decide_eq_true c8
      have c8b1 : decide (0 < a1.size) = true := decide_eq_true (by omega)
      clear c8
      have H' := Aside0.mk H
      clear H
      have p9 : 0 ≤ (0 : Int) := (by omega)
      have q9 : 0 < a1.size := (by have : (0 : Int) < (a1.size : Int) := ct_; omega)
      have hx9 : ∀ h : 0 < a1.size, ((a1[0]'h).toNat : Int) = bt a1 0 := bt_at a1 0
      clear p9
      have qi9 : (0 < (a1.size : Int)) = True := eq_true (ct_)
      replace q9 := eq_true q9
      go_wp2
      repeat (go_quiet (fail); try go_wp2)
      go_meet
      case rel => exact ⟨_, (decide ((bt a1 0) < 128)), rl_, H', ⟨by have := HJ2.out; first | omega | exact Nat.le_refl _⟩, ⟨pb_ HB⟩⟩
     rw [if_neg c8] at H
     exact absurd H (by simp)
    rw [if_neg c7] at H
    have c7b0 : ((a1.size : Int) == 1) = false := beq_eq_false_iff_ne.mpr c7
    have c7b1 : ((a1.size : Int) != 1) = true := bne_iff_ne.mpr c7
    (first | rw [c7b0] | (simp only [i64_w, i32_w]; rw [c7b0]) | skip)
    have H' := Aside0.mk H
    clear H
    go_wp2
    repeat (go_quiet (fail); try go_wp2)
    go_meet
    case rel => exact ⟨_, (false), rl_, H', ⟨by have := HJ2.out; first | omega | exact Nat.le_refl _⟩, ⟨pb_ HB⟩⟩
   case rest =>
    clear HC6
    try clear c1
    try clear p2
    try clear c4
    try clear c4b0
    try clear c4b1
    try clear c5
    try clear c7
    try clear c7b0
    try clear c7b1
    try clear c8
    try clear c8b0
    try clear c8b1
    try clear p9
    try clear q9
    try clear hx9
    try clear qi9
    try clear p2
    try clear p9
    try clear q9
    obtain ⟨kq, x21_5, rfl, HA, HJ5, HB⟩ := hcut
    cases kq with
    | zero => exact absurd HA.out (by simp [strings_Trim.j1])
    | succ kj5 =>
     have H := HA.out
     clear HA
     simp only [strings_Trim.j1] at H
     by_cases c10 : x21_5 = true
     ·
      subst c10
      have H1 : (if 0 < (a1.size : Int) then ((strings_trimRightByte.f kj5 a0 (bt a1 0)).bind fun t262 => ((strings_trimLeftByte.f kj5 t262 (bt a1 0)).bind fun t263 => (some t263))) else (none)) = some r := by rw [if_pos rfl] at H; exact H
      clear H
      have H := H1
      clear H1
      by_cases c11 : 0 < (a1.size : Int)
      ·
       rw [if_pos c11] at H
       have c11b0 : decide (0 < (a1.size : Int)) = true := decide_eq_true c11
       have c11b1 : decide (0 < a1.size) = true := decide_eq_true (by omega)
       clear c11
       replace H := Option.bind_eq_some_iff.mp H
       obtain ⟨t262, A130, H⟩ := H
       replace H : ((strings_trimLeftByte.f kj5 t262 (bt a1 0)).bind fun t263 => (some t263)) = some r := H
       have A13 := Aside0.mk A130
       clear A130
       replace H := Option.bind_eq_some_iff.mp H
       obtain ⟨t263, A150, H⟩ := H
       replace H : (some t263) = some r := H
       have A15 := Aside0.mk A150
       clear A150
       obtain rfl := Option.some.inj H
       have p12 : 0 ≤ (0 : Int) := (by omega)
       have q12 : 0 < a1.size := (by have : (0 : Int) < (a1.size : Int) := ct_; omega)
       have hx12 : ∀ h : 0 < a1.size, ((a1[0]'h).toNat : Int) = bt a1 0 := bt_at a1 0
       clear p12
       have qi12 : (0 < (a1.size : Int)) = True := eq_true (ct_)
       replace q12 := eq_true q12
       go_wp2_with (first | (go_at_call 31; (with_reducible refine (strings_trimRightByte.calls kj5 a0 (bt a1 0) t262 _ A13.out).mono ?_); rintro e w' ⟨rfl, ⟨nd, rfl⟩⟩; (try first | exact ⟨rfl, _, World.drewN_drewN _ _ _⟩ | exact ⟨rfl, _, Eq.trans (World.drewN_drewN _ _ _) (congrArg (World.drewN _) (Nat.add_assoc _ _ _))⟩); have p14 : 0 ≤ (0 : Int) := (by omega); have q14 : 0 < a1.size := (by have : (0 : Int) < (a1.size : Int) := ct_; omega); have hx14 : ∀ h : 0 < a1.size, ((a1[0]'h).toNat : Int) = bt a1 0 := bt_at a1 0; clear p14; have qi14 : (0 < (a1.size : Int)) = True := eq_true (ct_); replace q14 := eq_true q14) | (go_at_call 30; (with_reducible refine (strings_trimLeftByte.calls kj5 t262 (bt a1 0) t263 _ A15.out).mono ?_); rintro e w' ⟨rfl, ⟨nd, rfl⟩⟩; (try first | exact ⟨rfl, _, World.drewN_drewN _ _ _⟩ | exact ⟨rfl, _, Eq.trans (World.drewN_drewN _ _ _) (congrArg (World.drewN _) (Nat.add_assoc _ _ _))⟩)))
       repeat (go_quiet (first | (go_at_call 31; (with_reducible refine (strings_trimRightByte.calls kj5 a0 (bt a1 0) t262 _ A13.out).mono ?_); rintro e w' ⟨rfl, ⟨nd, rfl⟩⟩; (try first | exact ⟨rfl, _, World.drewN_drewN _ _ _⟩ | exact ⟨rfl, _, Eq.trans (World.drewN_drewN _ _ _) (congrArg (World.drewN _) (Nat.add_assoc _ _ _))⟩); have p14 : 0 ≤ (0 : Int) := (by omega); have q14 : 0 < a1.size := (by have : (0 : Int) < (a1.size : Int) := ct_; omega); have hx14 : ∀ h : 0 < a1.size, ((a1[0]'h).toNat : Int) = bt a1 0 := bt_at a1 0; clear p14; have qi14 : (0 < (a1.size : Int)) = True := eq_true (ct_); replace q14 := eq_true q14) | (go_at_call 30; (with_reducible refine (strings_trimLeftByte.calls kj5 t262 (bt a1 0) t263 _ A15.out).mono ?_); rintro e w' ⟨rfl, ⟨nd, rfl⟩⟩; (try first | exact ⟨rfl, _, World.drewN_drewN _ _ _⟩ | exact ⟨rfl, _, Eq.trans (World.drewN_drewN _ _ _) (congrArg (World.drewN _) (Nat.add_assoc _ _ _))⟩))); try go_wp2_with (first | (go_at_call 31; (with_reducible refine (strings_trimRightByte.calls kj5 a0 (bt a1 0) t262 _ A13.out).mono ?_); rintro e w' ⟨rfl, ⟨nd, rfl⟩⟩; (try first | exact ⟨rfl, _, World.drewN_drewN _ _ _⟩ | exact ⟨rfl, _, Eq.trans (World.drewN_drewN _ _ _) (congrArg (World.drewN _) (Nat.add_assoc _ _ _))⟩); have p14 : 0 ≤ (0 : Int) := (by omega); have q14 : 0 < a1.size := (by have : (0 : Int) < (a1.size : Int) := ct_; omega); have hx14 : ∀ h : 0 < a1.size, ((a1[0]'h).toNat : Int) = bt a1 0 := bt_at a1 0; clear p14; have qi14 : (0 < (a1.size : Int)) = True := eq_true (ct_); replace q14 := eq_true q14) | (go_at_call 30; (with_reducible refine (strings_trimLeftByte.calls kj5 t262 (bt a1 0) t263 _ A15.out).mono ?_); rintro e w' ⟨rfl, ⟨nd, rfl⟩⟩; (try first | exact ⟨rfl, _, World.drewN_drewN _ _ _⟩ | exact ⟨rfl, _, Eq.trans (World.drewN_drewN _ _ _) (congrArg (World.drewN _) (Nat.add_assoc _ _ _))⟩))))
       go_ret
       exact ⟨er_, pb_ HB⟩
      rw [if_neg c11] at H
      exact absurd H (by simp)
     replace c10 := Bool.eq_false_iff.mpr c10
     subst c10
     have H1 : (none) = some r := by rw [if_neg (show ¬ (false = true) by decide)] at H; exact H
     clear H
     have H := H1
     clear H1
     exact absurd H (by simp)
end Go.Proofs.YtoabahlaicgmjaaDoor.X
end
