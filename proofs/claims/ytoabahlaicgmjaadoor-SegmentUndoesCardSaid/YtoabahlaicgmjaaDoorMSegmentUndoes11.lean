-- Texts of this claim joined by merge.py, a program of its author; what this claim does not reach is left out.
import Derived.Test.YtoabahlaicgmjaaDoorMSegmentUndoes10
section
namespace Go.Proofs.YtoabahlaicgmjaaDoor.X
open Go.Proofs.YtoabahlaicgmjaaDoor.XW Go.Proofs.YtoabahlaicgmjaaDoor.XS
open Go.RowKit Go.Proofs.YtoabahlaicgmjaaDoorW.PrintWords Go.Proofs.YtoabahlaicgmjaaDoorW.PrintLast Go.Proofs.YtoabahlaicgmjaaDoorW.PrintMore
attribute [local go_sem] max2_int min2_int max_two min_two max_three min_three max_four min_four   -- for this text's walks alone
set_option linter.unusedVariables false
set_option linter.unusedSimpArgs false
def midrangeref04_Done.f (k : Nat) (l0_0 : List (S46)) (a0_1 : Int) (a1_0 : Int) (a1_1 : Int) (a1_2 : Int) (a1_3 : Int) (a1_4 : ByteArray) : Option ((List (S46)) × Int × Int × ByteArray × Int) := (midrangeref04_OpErr.f a1_0 a1_1 a1_2 a1_3 a1_4).bind fun t451 => (if t451 = 0 then (if a1_0 = 0 then ((midrangeref04_Created.f k l0_0 a0_1 a1_3).bind fun bt452 => (some (bt452.1, bt452.2.1, bt452.2.2.1, bt452.2.2.2.1, bt452.2.2.2.2))) else (if a1_0 = 1 then ((midrangeref04_Extended.f k l0_0 a0_1 a1_1 a1_3).bind fun bt459 => (some (bt459.1, bt459.2.1, bt459.2.2.1, bt459.2.2.2.1, bt459.2.2.2.2))) else (if a1_0 = 2 then ((midrangeref04_Truncated.f k l0_0 a0_1 a1_1 a1_3).bind fun bt466 => (some (bt466.1, bt466.2.1, bt466.2.2.1, bt466.2.2.2.1, bt466.2.2.2.2))) else (if a1_0 = 3 then ((midrangeref04_Destroyed.f k l0_0 a0_1 a1_1).bind fun bt473 => (some (bt473.1, bt473.2.1, bt473.2.2.1, bt473.2.2.2.1, bt473.2.2.2.2))) else ((midrangeref04_Written.f k l0_0 a0_1 a1_1 a1_2 a1_4).bind fun bt480 => (some (bt480.1, bt480.2.1, bt480.2.2.1, bt480.2.2.2.1, bt480.2.2.2.2))))))) else (some (([] : List (S46)), 0, 0, (⟨#[]⟩ : ByteArray), t451)))
set_option maxHeartbeats 8000000 in
set_option maxRecDepth 100000 in
theorem midrangeref04_Done.calls (k : Nat) (A0_0 : Option Addr) (c0_0 : Nat) (l0_0 : List (S46)) (a0_1 : Int) (a1_0 : Int) (a1_1 : Int) (a1_2 : Int) (a1_3 : Int) (a1_4 : ByteArray) (r1 : List (S46)) (r2 : Int) (r3 : Int) (r4 : ByteArray) (r5 : Int) (w : World) (hr0_0 : Kd.C k46 w A0_0 l0_0.length l0_0) (hc0_0 : l0_0.length ≤ c0_0) (h : midrangeref04_Done.f k l0_0 a0_1 a1_0 a1_1 a1_2 a1_3 a1_4 = some (r1, r2, r3, r4, r5)) :
  Calls Tryd.prog 39 #[.agg #[.slice A0_0 l0_0.length c0_0, .int .i64 a0_1], .agg #[.int .i64 a1_0, .int .i64 a1_1, .int .i64 a1_2, .int .i64 a1_3, .string a1_4]] w fun e w' => ∃ v0_ : Value, e = .returned (.agg #[v0_, .int .i64 r2, .int .i64 r3, .string r4, .int .i64 r5]) ∧ Kd.R k46 46 w' w.heap.size (fun _ => True) v0_ r1 ∧ Below w.heap.size w w' := by
 have hu24 := Tryd.underlying24
 have hu26 := Tryd.underlying26
 have hu51 := Tryd.underlying51
 have hu79 := Tryd.underlying79
 have HR0_0 := Aside0.mk hr0_0
 have HC0_0 := Aside0.mk hc0_0
 clear hr0_0 hc0_0
 have HB := Aside0.mk (Below.refl w.heap.size w)
 have H : ((midrangeref04_OpErr.f a1_0 a1_1 a1_2 a1_3 a1_4).bind fun t451 => (if t451 = 0 then (if a1_0 = 0 then ((midrangeref04_Created.f k l0_0 a0_1 a1_3).bind fun bt452 => (some (bt452.1, bt452.2.1, bt452.2.2.1, bt452.2.2.2.1, bt452.2.2.2.2))) else (if a1_0 = 1 then ((midrangeref04_Extended.f k l0_0 a0_1 a1_1 a1_3).bind fun bt459 => (some (bt459.1, bt459.2.1, bt459.2.2.1, bt459.2.2.2.1, bt459.2.2.2.2))) else (if a1_0 = 2 then ((midrangeref04_Truncated.f k l0_0 a0_1 a1_1 a1_3).bind fun bt466 => (some (bt466.1, bt466.2.1, bt466.2.2.1, bt466.2.2.2.1, bt466.2.2.2.2))) else (if a1_0 = 3 then ((midrangeref04_Destroyed.f k l0_0 a0_1 a1_1).bind fun bt473 => (some (bt473.1, bt473.2.1, bt473.2.2.1, bt473.2.2.2.1, bt473.2.2.2.2))) else ((midrangeref04_Written.f k l0_0 a0_1 a1_1 a1_2 a1_4).bind fun bt480 => (some (bt480.1, bt480.2.1, bt480.2.2.1, bt480.2.2.2.1, bt480.2.2.2.2))))))) else (some (([] : List (S46)), 0, 0, (⟨#[]⟩ : ByteArray), t451)))) = some (r1, r2, r3, r4, r5) := h
 clear h
 replace H := Option.bind_eq_some_iff.mp H
 obtain ⟨t451, A30, H⟩ := H
 replace H : (if t451 = 0 then (if a1_0 = 0 then ((midrangeref04_Created.f k l0_0 a0_1 a1_3).bind fun bt452 => (some (bt452.1, bt452.2.1, bt452.2.2.1, bt452.2.2.2.1, bt452.2.2.2.2))) else (if a1_0 = 1 then ((midrangeref04_Extended.f k l0_0 a0_1 a1_1 a1_3).bind fun bt459 => (some (bt459.1, bt459.2.1, bt459.2.2.1, bt459.2.2.2.1, bt459.2.2.2.2))) else (if a1_0 = 2 then ((midrangeref04_Truncated.f k l0_0 a0_1 a1_1 a1_3).bind fun bt466 => (some (bt466.1, bt466.2.1, bt466.2.2.1, bt466.2.2.2.1, bt466.2.2.2.2))) else (if a1_0 = 3 then ((midrangeref04_Destroyed.f k l0_0 a0_1 a1_1).bind fun bt473 => (some (bt473.1, bt473.2.1, bt473.2.2.1, bt473.2.2.2.1, bt473.2.2.2.2))) else ((midrangeref04_Written.f k l0_0 a0_1 a1_1 a1_2 a1_4).bind fun bt480 => (some (bt480.1, bt480.2.1, bt480.2.2.1, bt480.2.2.2.1, bt480.2.2.2.2))))))) else (some (([] : List (S46)), 0, 0, (⟨#[]⟩ : ByteArray), t451))) = some (r1, r2, r3, r4, r5) := H
 have A3 := Aside0.mk A30
 clear A30
 by_cases c4 : t451 = 0
 ·
  rw [if_pos c4] at H
  have c4b0 : (t451 == 0) = true := beq_iff_eq.mpr c4
  have c4b1 : (t451 != 0) = false := bne_eq_false_iff_eq.mpr c4
  clear c4
  by_cases c5 : a1_0 = 0
  ·
   rw [if_pos c5] at H
   have c5b0 : (a1_0 == 0) = true := beq_iff_eq.mpr c5
   have c5b1 : (a1_0 != 0) = false := bne_eq_false_iff_eq.mpr c5
   clear c5
   replace H := Option.bind_eq_some_iff.mp H
   obtain ⟨⟨t452, t455, t456, t457, t458⟩, A60, H⟩ := H
   replace H : (some (t452, t455, t456, t457, t458)) = some (r1, r2, r3, r4, r5) := H
   have A6 := Aside0.mk A60
   clear A60
   simp only [Option.some.injEq, Prod.mk.injEq] at H
   obtain ⟨rfl, rfl, rfl, rfl, rfl⟩ := H
   go_enter Tryd.func39, Tryd.ntmps39
   go_wp2_with (first | ((with_reducible refine gate_dst (N := 2) rfl ?_); refine bx_ 2 #[.slice A0_0 l0_0.length c0_0, .int .i64 a0_1] 24 ?_; intro gb448 hg w7 hbox hb; have BK448 := Aside0.mk (hbox); have GW448 := gw_ hg HB; have GE448 := gw_ hg HB; replace HB := sb_ HB hb; clear hb hbox hg) | ((with_reducible refine gate_dst (N := 3) rfl ?_); refine bx_ 3 #[.int .i64 a1_0, .int .i64 a1_1, .int .i64 a1_2, .int .i64 a1_3, .string a1_4] 26 ?_; intro gb449 hg w8 hbox hb; have BK449 := Aside0.mk (hbox); have GW449 := gw_ hg HB; have GE449 := gw_ hg HB; replace HB := sb_ HB hb; have NB448_449 := nl_ hg BK448; have NB449_448 := ng_ hg BK448; replace BK448 := kb_ BK448 hb; clear hb hbox hg) | ((with_reducible refine gate_dst (N := 4) rfl ?_); refine bx_ 4 #[.slice none 0 0, .int .i64 0, .int .i64 0, .string (⟨#[]⟩ : ByteArray), .int .i64 0] 51 ?_; intro gb450 hg w9 hbox hb; have BK450 := Aside0.mk (hbox); have GW450 := gw_ hg HB; have GE450 := gw_ hg HB; replace HB := sb_ HB hb; have NB448_450 := nl_ hg BK448; have NB450_448 := ng_ hg BK448; replace BK448 := kb_ BK448 hb; have NB449_450 := nl_ hg BK449; have NB450_449 := ng_ hg BK449; replace BK449 := kb_ BK449 hb; clear hb hbox hg; have hnb10 := NB449_448.out; have hnc10 := NB448_449.out; have hnb11 := NB449_450.out; have hnc11 := NB450_449.out; have hcz12_0 := cz_ BK449 0 (.int .i64 a1_0); have hcz12_1 := cz_ BK449 1 (.int .i64 a1_1); have hcz12_2 := cz_ BK449 2 (.int .i64 a1_2); have hcz12_3 := cz_ BK449 3 (.int .i64 a1_3); have hcz12_4 := cz_ BK449 4 (.string a1_4); have hfz12_0 := blk_frozen BK449.out 0; have hfz12_1 := blk_frozen BK449.out 1; have hfz12_2 := blk_frozen BK449.out 2; have hfz12_3 := blk_frozen BK449.out 3; have hfz12_4 := blk_frozen BK449.out 4) | ((with_reducible refine gate_callee (f := 51) rfl ?_); refine gl_ 7 Tryd.func51 #[.agg #[.int .i64 a1_0, .int .i64 a1_1, .int .i64 a1_2, .int .i64 a1_3, .string a1_4]] ?_; (with_reducible refine (midrangeref04_OpErr.calls a1_0 a1_1 a1_2 a1_3 a1_4 t451 _ A3.out).mono ?_); rintro e w13 ⟨rfl, hb⟩; refine ⟨_, rfl, ?_⟩; replace BK448 := kb_ BK448 hb; replace BK449 := kb_ BK449 hb; replace BK450 := kb_ BK450 hb; replace HB := sb_ HB hb; (try clear hb); (try clear hb2); (try clear hk); (try clear hi); have hcz14_0 := cz_ BK449 0 (.int .i64 a1_0); have hcz14_1 := cz_ BK449 1 (.int .i64 a1_1); have hcz14_2 := cz_ BK449 2 (.int .i64 a1_2); have hcz14_3 := cz_ BK449 3 (.int .i64 a1_3); have hcz14_4 := cz_ BK449 4 (.string a1_4); have hfz14_0 := blk_frozen BK449.out 0; have hfz14_1 := blk_frozen BK449.out 1; have hfz14_2 := blk_frozen BK449.out 2; have hfz14_3 := blk_frozen BK449.out 3; have hfz14_4 := blk_frozen BK449.out 4; have hnb15 := NB448_450.out; have hnc15 := NB450_448.out; have hcz16_0 := cz_ BK448 0 (.slice A0_0 l0_0.length c0_0); have hcz16_1 := cz_ BK448 1 (.int .i64 a0_1); have hfz16_0 := blk_frozen BK448.out 0; have hfz16_1 := blk_frozen BK448.out 1) | ((with_reducible refine gate_callee (f := 52) rfl ?_); refine gl_ 19 Tryd.func52 #[.agg #[.slice A0_0 l0_0.length c0_0, .int .i64 a0_1], .int .i64 a1_3] ?_; (with_reducible refine (midrangeref04_Created.calls k _ _ l0_0 a0_1 a1_3 t452 t455 t456 t457 t458 _ ?side1 ?side2 A6.out).mono ?_); (case side1 => exact pc_ (Kd.C_below HR0_0.out HB.out)); (case side2 => exact HC0_0.out); rintro e w17 ⟨v453, rfl, ho0, hb⟩; refine ⟨_, rfl, ?_⟩; have HO454 := Aside0.mk (Kd.R_lower ho0 (below_size (pb_ HB))); replace BK448 := kb_ BK448 hb; replace BK449 := kb_ BK449 hb; replace BK450 := kb_ BK450 hb; replace HB := sb_ HB hb; (try clear hb); (try clear hb2); (try clear hk); (try clear hi); (try clear ho0); obtain ⟨Ao18, co18, eo18⟩ := Kd.R_slice HO454.out; subst eo18; have hcz19_0 := cz_ BK450 0 (.slice none 0 0); have hcz19_1 := cz_ BK450 1 (.int .i64 0); have hcz19_2 := cz_ BK450 2 (.int .i64 0); have hcz19_3 := cz_ BK450 3 (.string (⟨#[]⟩ : ByteArray)); have hcz19_4 := cz_ BK450 4 (.int .i64 0); have hfz19_0 := blk_frozen BK450.out 0; have hfz19_1 := blk_frozen BK450.out 1; have hfz19_2 := blk_frozen BK450.out 2; have hfz19_3 := blk_frozen BK450.out 3; have hfz19_4 := blk_frozen BK450.out 4))
   refine bodyPost_ret (results_cell_row rfl _ _ gb450 51 #[.slice Ao18 t452.length co18, .int .i64 t455, .int .i64 t456, .string t457, .int .i64 t458] (0, 0) _ rfl (bq_ BK450) Tryd.underlying51 rfl (by kernel_rfl)) rfl ?_
   exact ⟨_, er_, by (with_reducible repeat (first | apply Kd.R_alloc | apply Kd.R_drewN | apply Kd.R_drew)); exact Kd.R_mono (Kd.R_far (p := ⟨gb450, 4, none⟩) (Kd.R_far (p := ⟨gb450, 3, none⟩) (Kd.R_far (p := ⟨gb450, 2, none⟩) (Kd.R_far (p := ⟨gb450, 1, none⟩) (Kd.R_far (p := ⟨gb450, 0, none⟩) (Kd.R_types HO454.out BK450.out (by decide)) (fun _ hk => hk.2) (.slice Ao18 t452.length co18)) (fun _ hk => hk.2) (.int .i64 t455)) (fun _ hk => hk.2) (.int .i64 t456)) (fun _ hk => hk.2) (.string t457)) (fun _ hk => hk.2) (.int .i64 t458)) (fun _ hk => trivial), pb_ HB⟩
  rw [if_neg c5] at H
  have c5b0 : (a1_0 == 0) = false := beq_eq_false_iff_ne.mpr c5
  have c5b1 : (a1_0 != 0) = true := bne_iff_ne.mpr c5
  by_cases c20 : a1_0 = 1
  ·
   rw [if_pos c20] at H
   have c20b0 : (a1_0 == 1) = true := beq_iff_eq.mpr c20
   have c20b1 : (a1_0 != 1) = false := bne_eq_false_iff_eq.mpr c20
   clear c20
   replace H := Option.bind_eq_some_iff.mp H
   obtain ⟨⟨t459, t462, t463, t464, t465⟩, A210, H⟩ := H
   replace H : (some (t459, t462, t463, t464, t465)) = some (r1, r2, r3, r4, r5) := H
   have A21 := Aside0.mk A210
   clear A210
   simp only [Option.some.injEq, Prod.mk.injEq] at H
   obtain ⟨rfl, rfl, rfl, rfl, rfl⟩ := H
   go_enter Tryd.func39, Tryd.ntmps39
   go_wp2_with (first | ((with_reducible refine gate_dst (N := 2) rfl ?_); refine bx_ 2 #[.slice A0_0 l0_0.length c0_0, .int .i64 a0_1] 24 ?_; intro gb448 hg w22 hbox hb; have BK448 := Aside0.mk (hbox); have GW448 := gw_ hg HB; have GE448 := gw_ hg HB; replace HB := sb_ HB hb; clear hb hbox hg) | ((with_reducible refine gate_dst (N := 3) rfl ?_); refine bx_ 3 #[.int .i64 a1_0, .int .i64 a1_1, .int .i64 a1_2, .int .i64 a1_3, .string a1_4] 26 ?_; intro gb449 hg w23 hbox hb; have BK449 := Aside0.mk (hbox); have GW449 := gw_ hg HB; have GE449 := gw_ hg HB; replace HB := sb_ HB hb; have NB448_449 := nl_ hg BK448; have NB449_448 := ng_ hg BK448; replace BK448 := kb_ BK448 hb; clear hb hbox hg) | ((with_reducible refine gate_dst (N := 4) rfl ?_); refine bx_ 4 #[.slice none 0 0, .int .i64 0, .int .i64 0, .string (⟨#[]⟩ : ByteArray), .int .i64 0] 51 ?_; intro gb450 hg w24 hbox hb; have BK450 := Aside0.mk (hbox); have GW450 := gw_ hg HB; have GE450 := gw_ hg HB; replace HB := sb_ HB hb; have NB448_450 := nl_ hg BK448; have NB450_448 := ng_ hg BK448; replace BK448 := kb_ BK448 hb; have NB449_450 := nl_ hg BK449; have NB450_449 := ng_ hg BK449; replace BK449 := kb_ BK449 hb; clear hb hbox hg; have hnb25 := NB449_448.out; have hnc25 := NB448_449.out; have hnb26 := NB449_450.out; have hnc26 := NB450_449.out; have hcz27_0 := cz_ BK449 0 (.int .i64 a1_0); have hcz27_1 := cz_ BK449 1 (.int .i64 a1_1); have hcz27_2 := cz_ BK449 2 (.int .i64 a1_2); have hcz27_3 := cz_ BK449 3 (.int .i64 a1_3); have hcz27_4 := cz_ BK449 4 (.string a1_4); have hfz27_0 := blk_frozen BK449.out 0; have hfz27_1 := blk_frozen BK449.out 1; have hfz27_2 := blk_frozen BK449.out 2; have hfz27_3 := blk_frozen BK449.out 3; have hfz27_4 := blk_frozen BK449.out 4) | ((with_reducible refine gate_callee (f := 51) rfl ?_); refine gl_ 7 Tryd.func51 #[.agg #[.int .i64 a1_0, .int .i64 a1_1, .int .i64 a1_2, .int .i64 a1_3, .string a1_4]] ?_; (with_reducible refine (midrangeref04_OpErr.calls a1_0 a1_1 a1_2 a1_3 a1_4 t451 _ A3.out).mono ?_); rintro e w28 ⟨rfl, hb⟩; refine ⟨_, rfl, ?_⟩; replace BK448 := kb_ BK448 hb; replace BK449 := kb_ BK449 hb; replace BK450 := kb_ BK450 hb; replace HB := sb_ HB hb; (try clear hb); (try clear hb2); (try clear hk); (try clear hi); have hcz29_0 := cz_ BK449 0 (.int .i64 a1_0); have hcz29_1 := cz_ BK449 1 (.int .i64 a1_1); have hcz29_2 := cz_ BK449 2 (.int .i64 a1_2); have hcz29_3 := cz_ BK449 3 (.int .i64 a1_3); have hcz29_4 := cz_ BK449 4 (.string a1_4); have hfz29_0 := blk_frozen BK449.out 0; have hfz29_1 := blk_frozen BK449.out 1; have hfz29_2 := blk_frozen BK449.out 2; have hfz29_3 := blk_frozen BK449.out 3; have hfz29_4 := blk_frozen BK449.out 4; have hnb30 := NB448_450.out; have hnc30 := NB450_448.out; have hcz31_0 := cz_ BK448 0 (.slice A0_0 l0_0.length c0_0); have hcz31_1 := cz_ BK448 1 (.int .i64 a0_1); have hfz31_0 := blk_frozen BK448.out 0; have hfz31_1 := blk_frozen BK448.out 1) | ((with_reducible refine gate_callee (f := 53) rfl ?_); refine gl_ 27 Tryd.func53 #[.agg #[.slice A0_0 l0_0.length c0_0, .int .i64 a0_1], .int .i64 a1_1, .int .i64 a1_3] ?_; (with_reducible refine (midrangeref04_Extended.calls k _ _ l0_0 a0_1 a1_1 a1_3 t459 t462 t463 t464 t465 _ ?side1 ?side2 A21.out).mono ?_); (case side1 => exact pc_ (Kd.C_below HR0_0.out HB.out)); (case side2 => exact HC0_0.out); rintro e w32 ⟨v460, rfl, ho0, hb⟩; refine ⟨_, rfl, ?_⟩; have HO461 := Aside0.mk (Kd.R_lower ho0 (below_size (pb_ HB))); replace BK448 := kb_ BK448 hb; replace BK449 := kb_ BK449 hb; replace BK450 := kb_ BK450 hb; replace HB := sb_ HB hb; (try clear hb); (try clear hb2); (try clear hk); (try clear hi); (try clear ho0); obtain ⟨Ao33, co33, eo33⟩ := Kd.R_slice HO461.out; subst eo33; have hcz34_0 := cz_ BK450 0 (.slice none 0 0); have hcz34_1 := cz_ BK450 1 (.int .i64 0); have hcz34_2 := cz_ BK450 2 (.int .i64 0); have hcz34_3 := cz_ BK450 3 (.string (⟨#[]⟩ : ByteArray)); have hcz34_4 := cz_ BK450 4 (.int .i64 0); have hfz34_0 := blk_frozen BK450.out 0; have hfz34_1 := blk_frozen BK450.out 1; have hfz34_2 := blk_frozen BK450.out 2; have hfz34_3 := blk_frozen BK450.out 3; have hfz34_4 := blk_frozen BK450.out 4))
   refine bodyPost_ret (results_cell_row rfl _ _ gb450 51 #[.slice Ao33 t459.length co33, .int .i64 t462, .int .i64 t463, .string t464, .int .i64 t465] (0, 0) _ rfl (bq_ BK450) Tryd.underlying51 rfl (by kernel_rfl)) rfl ?_
   exact ⟨_, er_, by (with_reducible repeat (first | apply Kd.R_alloc | apply Kd.R_drewN | apply Kd.R_drew)); exact Kd.R_mono (Kd.R_far (p := ⟨gb450, 4, none⟩) (Kd.R_far (p := ⟨gb450, 3, none⟩) (Kd.R_far (p := ⟨gb450, 2, none⟩) (Kd.R_far (p := ⟨gb450, 1, none⟩) (Kd.R_far (p := ⟨gb450, 0, none⟩) (Kd.R_types HO461.out BK450.out (by decide)) (fun _ hk => hk.2) (.slice Ao33 t459.length co33)) (fun _ hk => hk.2) (.int .i64 t462)) (fun _ hk => hk.2) (.int .i64 t463)) (fun _ hk => hk.2) (.string t464)) (fun _ hk => hk.2) (.int .i64 t465)) (fun _ hk => trivial), pb_ HB⟩
  rw [if_neg c20] at H
  have c20b0 : (a1_0 == 1) = false := beq_eq_false_iff_ne.mpr c20
  have c20b1 : (a1_0 != 1) = true := bne_iff_ne.mpr c20
  by_cases c35 : a1_0 = 2
  ·
   rw [if_pos c35] at H
   have c35b0 : (a1_0 == 2) = true := beq_iff_eq.mpr c35
   have c35b1 : (a1_0 != 2) = false := bne_eq_false_iff_eq.mpr c35
   clear c35
   replace H := Option.bind_eq_some_iff.mp H
   obtain ⟨⟨t466, t469, t470, t471, t472⟩, A360, H⟩ := H
   replace H : (some (t466, t469, t470, t471, t472)) = some (r1, r2, r3, r4, r5) := H
   have A36 := Aside0.mk A360
   clear A360
   simp only [Option.some.injEq, Prod.mk.injEq] at H
   obtain ⟨rfl, rfl, rfl, rfl, rfl⟩ := H
   go_enter Tryd.func39, Tryd.ntmps39
   go_wp2_with (first | ((with_reducible refine gate_dst (N := 2) rfl ?_); refine bx_ 2 #[.slice A0_0 l0_0.length c0_0, .int .i64 a0_1] 24 ?_; intro gb448 hg w37 hbox hb; have BK448 := Aside0.mk (hbox); have GW448 := gw_ hg HB; have GE448 := gw_ hg HB; replace HB := sb_ HB hb; clear hb hbox hg) | ((with_reducible refine gate_dst (N := 3) rfl ?_); refine bx_ 3 #[.int .i64 a1_0, .int .i64 a1_1, .int .i64 a1_2, .int .i64 a1_3, .string a1_4] 26 ?_; intro gb449 hg w38 hbox hb; have BK449 := Aside0.mk (hbox); have GW449 := gw_ hg HB; have GE449 := gw_ hg HB; replace HB := sb_ HB hb; have NB448_449 := nl_ hg BK448; have NB449_448 := ng_ hg BK448; replace BK448 := kb_ BK448 hb; clear hb hbox hg) | ((with_reducible refine gate_dst (N := 4) rfl ?_); refine bx_ 4 #[.slice none 0 0, .int .i64 0, .int .i64 0, .string (⟨#[]⟩ : ByteArray), .int .i64 0] 51 ?_; intro gb450 hg w39 hbox hb; have BK450 := Aside0.mk (hbox); have GW450 := gw_ hg HB; have GE450 := gw_ hg HB; replace HB := sb_ HB hb; have NB448_450 := nl_ hg BK448; have NB450_448 := ng_ hg BK448; replace BK448 := kb_ BK448 hb; have NB449_450 := nl_ hg BK449; have NB450_449 := ng_ hg BK449; replace BK449 := kb_ BK449 hb; clear hb hbox hg; have hnb40 := NB449_448.out; have hnc40 := NB448_449.out; have hnb41 := NB449_450.out; have hnc41 := NB450_449.out; have hcz42_0 := cz_ BK449 0 (.int .i64 a1_0); have hcz42_1 := cz_ BK449 1 (.int .i64 a1_1); have hcz42_2 := cz_ BK449 2 (.int .i64 a1_2); have hcz42_3 := cz_ BK449 3 (.int .i64 a1_3); have hcz42_4 := cz_ BK449 4 (.string a1_4); have hfz42_0 := blk_frozen BK449.out 0; have hfz42_1 := blk_frozen BK449.out 1; have hfz42_2 := blk_frozen BK449.out 2; have hfz42_3 := blk_frozen BK449.out 3; have hfz42_4 := blk_frozen BK449.out 4) | ((with_reducible refine gate_callee (f := 51) rfl ?_); refine gl_ 7 Tryd.func51 #[.agg #[.int .i64 a1_0, .int .i64 a1_1, .int .i64 a1_2, .int .i64 a1_3, .string a1_4]] ?_; (with_reducible refine (midrangeref04_OpErr.calls a1_0 a1_1 a1_2 a1_3 a1_4 t451 _ A3.out).mono ?_); rintro e w43 ⟨rfl, hb⟩; refine ⟨_, rfl, ?_⟩; replace BK448 := kb_ BK448 hb; replace BK449 := kb_ BK449 hb; replace BK450 := kb_ BK450 hb; replace HB := sb_ HB hb; (try clear hb); (try clear hb2); (try clear hk); (try clear hi); have hcz44_0 := cz_ BK449 0 (.int .i64 a1_0); have hcz44_1 := cz_ BK449 1 (.int .i64 a1_1); have hcz44_2 := cz_ BK449 2 (.int .i64 a1_2); have hcz44_3 := cz_ BK449 3 (.int .i64 a1_3); have hcz44_4 := cz_ BK449 4 (.string a1_4); have hfz44_0 := blk_frozen BK449.out 0; have hfz44_1 := blk_frozen BK449.out 1; have hfz44_2 := blk_frozen BK449.out 2; have hfz44_3 := blk_frozen BK449.out 3; have hfz44_4 := blk_frozen BK449.out 4; have hnb45 := NB448_450.out; have hnc45 := NB450_448.out; have hcz46_0 := cz_ BK448 0 (.slice A0_0 l0_0.length c0_0); have hcz46_1 := cz_ BK448 1 (.int .i64 a0_1); have hfz46_0 := blk_frozen BK448.out 0; have hfz46_1 := blk_frozen BK448.out 1) | ((with_reducible refine gate_callee (f := 54) rfl ?_); refine gl_ 35 Tryd.func54 #[.agg #[.slice A0_0 l0_0.length c0_0, .int .i64 a0_1], .int .i64 a1_1, .int .i64 a1_3] ?_; (with_reducible refine (midrangeref04_Truncated.calls k _ _ l0_0 a0_1 a1_1 a1_3 t466 t469 t470 t471 t472 _ ?side1 ?side2 A36.out).mono ?_); (case side1 => exact pc_ (Kd.C_below HR0_0.out HB.out)); (case side2 => exact HC0_0.out); rintro e w47 ⟨v467, rfl, ho0, hb⟩; refine ⟨_, rfl, ?_⟩; have HO468 := Aside0.mk (Kd.R_lower ho0 (below_size (pb_ HB))); replace BK448 := kb_ BK448 hb; replace BK449 := kb_ BK449 hb; replace BK450 := kb_ BK450 hb; replace HB := sb_ HB hb; (try clear hb); (try clear hb2); (try clear hk); (try clear hi); (try clear ho0); obtain ⟨Ao48, co48, eo48⟩ := Kd.R_slice HO468.out; subst eo48; have hcz49_0 := cz_ BK450 0 (.slice none 0 0); have hcz49_1 := cz_ BK450 1 (.int .i64 0); have hcz49_2 := cz_ BK450 2 (.int .i64 0); have hcz49_3 := cz_ BK450 3 (.string (⟨#[]⟩ : ByteArray)); have hcz49_4 := cz_ BK450 4 (.int .i64 0); have hfz49_0 := blk_frozen BK450.out 0; have hfz49_1 := blk_frozen BK450.out 1; have hfz49_2 := blk_frozen BK450.out 2; have hfz49_3 := blk_frozen BK450.out 3; have hfz49_4 := blk_frozen BK450.out 4))
   refine bodyPost_ret (results_cell_row rfl _ _ gb450 51 #[.slice Ao48 t466.length co48, .int .i64 t469, .int .i64 t470, .string t471, .int .i64 t472] (0, 0) _ rfl (bq_ BK450) Tryd.underlying51 rfl (by kernel_rfl)) rfl ?_
   exact ⟨_, er_, by (with_reducible repeat (first | apply Kd.R_alloc | apply Kd.R_drewN | apply Kd.R_drew)); exact Kd.R_mono (Kd.R_far (p := ⟨gb450, 4, none⟩) (Kd.R_far (p := ⟨gb450, 3, none⟩) (Kd.R_far (p := ⟨gb450, 2, none⟩) (Kd.R_far (p := ⟨gb450, 1, none⟩) (Kd.R_far (p := ⟨gb450, 0, none⟩) (Kd.R_types HO468.out BK450.out (by decide)) (fun _ hk => hk.2) (.slice Ao48 t466.length co48)) (fun _ hk => hk.2) (.int .i64 t469)) (fun _ hk => hk.2) (.int .i64 t470)) (fun _ hk => hk.2) (.string t471)) (fun _ hk => hk.2) (.int .i64 t472)) (fun _ hk => trivial), pb_ HB⟩
  rw [if_neg c35] at H
  have c35b0 : (a1_0 == 2) = false := beq_eq_false_iff_ne.mpr c35
  have c35b1 : (a1_0 != 2) = true := bne_iff_ne.mpr c35
  by_cases c50 : a1_0 = 3
  ·
   rw [if_pos c50] at H
   have c50b0 : (a1_0 == 3) = true := beq_iff_eq.mpr c50
   have c50b1 : (a1_0 != 3) = false := bne_eq_false_iff_eq.mpr c50
   clear c50
   replace H := Option.bind_eq_some_iff.mp H
   obtain ⟨⟨t473, t476, t477, t478, t479⟩, A510, H⟩ := H
   replace H : (some (t473, t476, t477, t478, t479)) = some (r1, r2, r3, r4, r5) := H
   have A51 := Aside0.mk A510
   clear A510
   simp only [Option.some.injEq, Prod.mk.injEq] at H
   obtain ⟨rfl, rfl, rfl, rfl, rfl⟩ := H
   go_enter Tryd.func39, Tryd.ntmps39
   go_wp2_with (first | ((with_reducible refine gate_dst (N := 2) rfl ?_); refine bx_ 2 #[.slice A0_0 l0_0.length c0_0, .int .i64 a0_1] 24 ?_; intro gb448 hg w52 hbox hb; have BK448 := Aside0.mk (hbox); have GW448 := gw_ hg HB; have GE448 := gw_ hg HB; replace HB := sb_ HB hb; clear hb hbox hg) | ((with_reducible refine gate_dst (N := 3) rfl ?_); refine bx_ 3 #[.int .i64 a1_0, .int .i64 a1_1, .int .i64 a1_2, .int .i64 a1_3, .string a1_4] 26 ?_; intro gb449 hg w53 hbox hb; have BK449 := Aside0.mk (hbox); have GW449 := gw_ hg HB; have GE449 := gw_ hg HB; replace HB := sb_ HB hb; have NB448_449 := nl_ hg BK448; have NB449_448 := ng_ hg BK448; replace BK448 := kb_ BK448 hb; clear hb hbox hg) | ((with_reducible refine gate_dst (N := 4) rfl ?_); refine bx_ 4 #[.slice none 0 0, .int .i64 0, .int .i64 0, .string (⟨#[]⟩ : ByteArray), .int .i64 0] 51 ?_; intro gb450 hg w54 hbox hb; have BK450 := Aside0.mk (hbox); have GW450 := gw_ hg HB; have GE450 := gw_ hg HB; replace HB := sb_ HB hb; have NB448_450 := nl_ hg BK448; have NB450_448 := ng_ hg BK448; replace BK448 := kb_ BK448 hb; have NB449_450 := nl_ hg BK449; have NB450_449 := ng_ hg BK449; replace BK449 := kb_ BK449 hb; clear hb hbox hg; have hnb55 := NB449_448.out; have hnc55 := NB448_449.out; have hnb56 := NB449_450.out; have hnc56 := NB450_449.out; have hcz57_0 := cz_ BK449 0 (.int .i64 a1_0); have hcz57_1 := cz_ BK449 1 (.int .i64 a1_1); have hcz57_2 := cz_ BK449 2 (.int .i64 a1_2); have hcz57_3 := cz_ BK449 3 (.int .i64 a1_3); have hcz57_4 := cz_ BK449 4 (.string a1_4); have hfz57_0 := blk_frozen BK449.out 0; have hfz57_1 := blk_frozen BK449.out 1; have hfz57_2 := blk_frozen BK449.out 2; have hfz57_3 := blk_frozen BK449.out 3; have hfz57_4 := blk_frozen BK449.out 4) | ((with_reducible refine gate_callee (f := 51) rfl ?_); refine gl_ 7 Tryd.func51 #[.agg #[.int .i64 a1_0, .int .i64 a1_1, .int .i64 a1_2, .int .i64 a1_3, .string a1_4]] ?_; (with_reducible refine (midrangeref04_OpErr.calls a1_0 a1_1 a1_2 a1_3 a1_4 t451 _ A3.out).mono ?_); rintro e w58 ⟨rfl, hb⟩; refine ⟨_, rfl, ?_⟩; replace BK448 := kb_ BK448 hb; replace BK449 := kb_ BK449 hb; replace BK450 := kb_ BK450 hb; replace HB := sb_ HB hb; (try clear hb); (try clear hb2); (try clear hk); (try clear hi); have hcz59_0 := cz_ BK449 0 (.int .i64 a1_0); have hcz59_1 := cz_ BK449 1 (.int .i64 a1_1); have hcz59_2 := cz_ BK449 2 (.int .i64 a1_2); have hcz59_3 := cz_ BK449 3 (.int .i64 a1_3); have hcz59_4 := cz_ BK449 4 (.string a1_4); have hfz59_0 := blk_frozen BK449.out 0; have hfz59_1 := blk_frozen BK449.out 1; have hfz59_2 := blk_frozen BK449.out 2; have hfz59_3 := blk_frozen BK449.out 3; have hfz59_4 := blk_frozen BK449.out 4; have hnb60 := NB448_450.out; have hnc60 := NB450_448.out; have hcz61_0 := cz_ BK448 0 (.slice A0_0 l0_0.length c0_0); have hcz61_1 := cz_ BK448 1 (.int .i64 a0_1); have hfz61_0 := blk_frozen BK448.out 0; have hfz61_1 := blk_frozen BK448.out 1) | ((with_reducible refine gate_callee (f := 55) rfl ?_); refine gl_ 41 Tryd.func55 #[.agg #[.slice A0_0 l0_0.length c0_0, .int .i64 a0_1], .int .i64 a1_1] ?_; (with_reducible refine (midrangeref04_Destroyed.calls k _ _ l0_0 a0_1 a1_1 t473 t476 t477 t478 t479 _ ?side1 ?side2 A51.out).mono ?_); (case side1 => exact pc_ (Kd.C_below HR0_0.out HB.out)); (case side2 => exact HC0_0.out); rintro e w62 ⟨v474, rfl, ho0, hb⟩; refine ⟨_, rfl, ?_⟩; have HO475 := Aside0.mk (Kd.R_lower ho0 (below_size (pb_ HB))); replace BK448 := kb_ BK448 hb; replace BK449 := kb_ BK449 hb; replace BK450 := kb_ BK450 hb; replace HB := sb_ HB hb; (try clear hb); (try clear hb2); (try clear hk); (try clear hi); (try clear ho0); obtain ⟨Ao63, co63, eo63⟩ := Kd.R_slice HO475.out; subst eo63; have hcz64_0 := cz_ BK450 0 (.slice none 0 0); have hcz64_1 := cz_ BK450 1 (.int .i64 0); have hcz64_2 := cz_ BK450 2 (.int .i64 0); have hcz64_3 := cz_ BK450 3 (.string (⟨#[]⟩ : ByteArray)); have hcz64_4 := cz_ BK450 4 (.int .i64 0); have hfz64_0 := blk_frozen BK450.out 0; have hfz64_1 := blk_frozen BK450.out 1; have hfz64_2 := blk_frozen BK450.out 2; have hfz64_3 := blk_frozen BK450.out 3; have hfz64_4 := blk_frozen BK450.out 4))
   refine bodyPost_ret (results_cell_row rfl _ _ gb450 51 #[.slice Ao63 t473.length co63, .int .i64 t476, .int .i64 t477, .string t478, .int .i64 t479] (0, 0) _ rfl (bq_ BK450) Tryd.underlying51 rfl (by kernel_rfl)) rfl ?_
   exact ⟨_, er_, by (with_reducible repeat (first | apply Kd.R_alloc | apply Kd.R_drewN | apply Kd.R_drew)); exact Kd.R_mono (Kd.R_far (p := ⟨gb450, 4, none⟩) (Kd.R_far (p := ⟨gb450, 3, none⟩) (Kd.R_far (p := ⟨gb450, 2, none⟩) (Kd.R_far (p := ⟨gb450, 1, none⟩) (Kd.R_far (p := ⟨gb450, 0, none⟩) (Kd.R_types HO475.out BK450.out (by decide)) (fun _ hk => hk.2) (.slice Ao63 t473.length co63)) (fun _ hk => hk.2) (.int .i64 t476)) (fun _ hk => hk.2) (.int .i64 t477)) (fun _ hk => hk.2) (.string t478)) (fun _ hk => hk.2) (.int .i64 t479)) (fun _ hk => trivial), pb_ HB⟩
  rw [if_neg c50] at H
  have c50b0 : (a1_0 == 3) = false := beq_eq_false_iff_ne.mpr c50
  have c50b1 : (a1_0 != 3) = true := bne_iff_ne.mpr c50
  replace H := Option.bind_eq_some_iff.mp H
  obtain ⟨⟨t480, t483, t484, t485, t486⟩, A650, H⟩ := H
  replace H : (some (t480, t483, t484, t485, t486)) = some (r1, r2, r3, r4, r5) := H
  have A65 := Aside0.mk A650
  clear A650
  simp only [Option.some.injEq, Prod.mk.injEq] at H
  obtain ⟨rfl, rfl, rfl, rfl, rfl⟩ := H
  go_enter Tryd.func39, Tryd.ntmps39
  go_wp2_with (first | ((with_reducible refine gate_dst (N := 2) rfl ?_); refine bx_ 2 #[.slice A0_0 l0_0.length c0_0, .int .i64 a0_1] 24 ?_; intro gb448 hg w66 hbox hb; have BK448 := Aside0.mk (hbox); have GW448 := gw_ hg HB; have GE448 := gw_ hg HB; replace HB := sb_ HB hb; clear hb hbox hg) | ((with_reducible refine gate_dst (N := 3) rfl ?_); refine bx_ 3 #[.int .i64 a1_0, .int .i64 a1_1, .int .i64 a1_2, .int .i64 a1_3, .string a1_4] 26 ?_; intro gb449 hg w67 hbox hb; have BK449 := Aside0.mk (hbox); have GW449 := gw_ hg HB; have GE449 := gw_ hg HB; replace HB := sb_ HB hb; have NB448_449 := nl_ hg BK448; have NB449_448 := ng_ hg BK448; replace BK448 := kb_ BK448 hb; clear hb hbox hg) | ((with_reducible refine gate_dst (N := 4) rfl ?_); refine bx_ 4 #[.slice none 0 0, .int .i64 0, .int .i64 0, .string (⟨#[]⟩ : ByteArray), .int .i64 0] 51 ?_; intro gb450 hg w68 hbox hb; have BK450 := Aside0.mk (hbox); have GW450 := gw_ hg HB; have GE450 := gw_ hg HB; replace HB := sb_ HB hb; have NB448_450 := nl_ hg BK448; have NB450_448 := ng_ hg BK448; replace BK448 := kb_ BK448 hb; have NB449_450 := nl_ hg BK449; have NB450_449 := ng_ hg BK449; replace BK449 := kb_ BK449 hb; clear hb hbox hg; have hnb69 := NB449_448.out; have hnc69 := NB448_449.out; have hnb70 := NB449_450.out; have hnc70 := NB450_449.out; have hcz71_0 := cz_ BK449 0 (.int .i64 a1_0); have hcz71_1 := cz_ BK449 1 (.int .i64 a1_1); have hcz71_2 := cz_ BK449 2 (.int .i64 a1_2); have hcz71_3 := cz_ BK449 3 (.int .i64 a1_3); have hcz71_4 := cz_ BK449 4 (.string a1_4); have hfz71_0 := blk_frozen BK449.out 0; have hfz71_1 := blk_frozen BK449.out 1; have hfz71_2 := blk_frozen BK449.out 2; have hfz71_3 := blk_frozen BK449.out 3; have hfz71_4 := blk_frozen BK449.out 4) | ((with_reducible refine gate_callee (f := 51) rfl ?_); refine gl_ 7 Tryd.func51 #[.agg #[.int .i64 a1_0, .int .i64 a1_1, .int .i64 a1_2, .int .i64 a1_3, .string a1_4]] ?_; (with_reducible refine (midrangeref04_OpErr.calls a1_0 a1_1 a1_2 a1_3 a1_4 t451 _ A3.out).mono ?_); rintro e w72 ⟨rfl, hb⟩; refine ⟨_, rfl, ?_⟩; replace BK448 := kb_ BK448 hb; replace BK449 := kb_ BK449 hb; replace BK450 := kb_ BK450 hb; replace HB := sb_ HB hb; (try clear hb); (try clear hb2); (try clear hk); (try clear hi); have hcz73_0 := cz_ BK449 0 (.int .i64 a1_0); have hcz73_1 := cz_ BK449 1 (.int .i64 a1_1); have hcz73_2 := cz_ BK449 2 (.int .i64 a1_2); have hcz73_3 := cz_ BK449 3 (.int .i64 a1_3); have hcz73_4 := cz_ BK449 4 (.string a1_4); have hfz73_0 := blk_frozen BK449.out 0; have hfz73_1 := blk_frozen BK449.out 1; have hfz73_2 := blk_frozen BK449.out 2; have hfz73_3 := blk_frozen BK449.out 3; have hfz73_4 := blk_frozen BK449.out 4; have hnb74 := NB448_450.out; have hnc74 := NB450_448.out; have hcz75_0 := cz_ BK448 0 (.slice A0_0 l0_0.length c0_0); have hcz75_1 := cz_ BK448 1 (.int .i64 a0_1); have hfz75_0 := blk_frozen BK448.out 0; have hfz75_1 := blk_frozen BK448.out 1) | ((with_reducible refine gate_callee (f := 56) rfl ?_); refine gl_ 50 Tryd.func56 #[.agg #[.slice A0_0 l0_0.length c0_0, .int .i64 a0_1], .agg #[.int .i64 a1_1, .int .i64 a1_2], .string a1_4] ?_; (with_reducible refine (midrangeref04_Written.calls k _ _ l0_0 a0_1 a1_1 a1_2 a1_4 t480 t483 t484 t485 t486 _ ?side1 ?side2 A65.out).mono ?_); (case side1 => exact pc_ (Kd.C_below HR0_0.out HB.out)); (case side2 => exact HC0_0.out); rintro e w76 ⟨v481, rfl, ho0, hb⟩; refine ⟨_, rfl, ?_⟩; have HO482 := Aside0.mk (Kd.R_lower ho0 (below_size (pb_ HB))); replace BK448 := kb_ BK448 hb; replace BK449 := kb_ BK449 hb; replace BK450 := kb_ BK450 hb; replace HB := sb_ HB hb; (try clear hb); (try clear hb2); (try clear hk); (try clear hi); (try clear ho0); obtain ⟨Ao77, co77, eo77⟩ := Kd.R_slice HO482.out; subst eo77; have hcz78_0 := cz_ BK450 0 (.slice none 0 0); have hcz78_1 := cz_ BK450 1 (.int .i64 0); have hcz78_2 := cz_ BK450 2 (.int .i64 0); have hcz78_3 := cz_ BK450 3 (.string (⟨#[]⟩ : ByteArray)); have hcz78_4 := cz_ BK450 4 (.int .i64 0); have hfz78_0 := blk_frozen BK450.out 0; have hfz78_1 := blk_frozen BK450.out 1; have hfz78_2 := blk_frozen BK450.out 2; have hfz78_3 := blk_frozen BK450.out 3; have hfz78_4 := blk_frozen BK450.out 4))
  refine bodyPost_ret (results_cell_row rfl _ _ gb450 51 #[.slice Ao77 t480.length co77, .int .i64 t483, .int .i64 t484, .string t485, .int .i64 t486] (0, 0) _ rfl (bq_ BK450) Tryd.underlying51 rfl (by kernel_rfl)) rfl ?_
  exact ⟨_, er_, by (with_reducible repeat (first | apply Kd.R_alloc | apply Kd.R_drewN | apply Kd.R_drew)); exact Kd.R_mono (Kd.R_far (p := ⟨gb450, 4, none⟩) (Kd.R_far (p := ⟨gb450, 3, none⟩) (Kd.R_far (p := ⟨gb450, 2, none⟩) (Kd.R_far (p := ⟨gb450, 1, none⟩) (Kd.R_far (p := ⟨gb450, 0, none⟩) (Kd.R_types HO482.out BK450.out (by decide)) (fun _ hk => hk.2) (.slice Ao77 t480.length co77)) (fun _ hk => hk.2) (.int .i64 t483)) (fun _ hk => hk.2) (.int .i64 t484)) (fun _ hk => hk.2) (.string t485)) (fun _ hk => hk.2) (.int .i64 t486)) (fun _ hk => trivial), pb_ HB⟩
 rw [if_neg c4] at H
 have c4b0 : (t451 == 0) = false := beq_eq_false_iff_ne.mpr c4
 have c4b1 : (t451 != 0) = true := bne_iff_ne.mpr c4
 simp only [Option.some.injEq, Prod.mk.injEq] at H
 obtain ⟨rfl, rfl, rfl, rfl, rfl⟩ := H
 go_enter Tryd.func39, Tryd.ntmps39
 go_wp2_with (first | ((with_reducible refine gate_dst (N := 2) rfl ?_); refine bx_ 2 #[.slice A0_0 l0_0.length c0_0, .int .i64 a0_1] 24 ?_; intro gb448 hg w79 hbox hb; have BK448 := Aside0.mk (hbox); have GW448 := gw_ hg HB; have GE448 := gw_ hg HB; replace HB := sb_ HB hb; clear hb hbox hg) | ((with_reducible refine gate_dst (N := 3) rfl ?_); refine bx_ 3 #[.int .i64 a1_0, .int .i64 a1_1, .int .i64 a1_2, .int .i64 a1_3, .string a1_4] 26 ?_; intro gb449 hg w80 hbox hb; have BK449 := Aside0.mk (hbox); have GW449 := gw_ hg HB; have GE449 := gw_ hg HB; replace HB := sb_ HB hb; have NB448_449 := nl_ hg BK448; have NB449_448 := ng_ hg BK448; replace BK448 := kb_ BK448 hb; clear hb hbox hg) | ((with_reducible refine gate_dst (N := 4) rfl ?_); refine bx_ 4 #[.slice none 0 0, .int .i64 0, .int .i64 0, .string (⟨#[]⟩ : ByteArray), .int .i64 0] 51 ?_; intro gb450 hg w81 hbox hb; have BK450 := Aside0.mk (hbox); have GW450 := gw_ hg HB; have GE450 := gw_ hg HB; replace HB := sb_ HB hb; have NB448_450 := nl_ hg BK448; have NB450_448 := ng_ hg BK448; replace BK448 := kb_ BK448 hb; have NB449_450 := nl_ hg BK449; have NB450_449 := ng_ hg BK449; replace BK449 := kb_ BK449 hb; clear hb hbox hg; have hnb82 := NB449_448.out; have hnc82 := NB448_449.out; have hnb83 := NB449_450.out; have hnc83 := NB450_449.out; have hcz84_0 := cz_ BK449 0 (.int .i64 a1_0); have hcz84_1 := cz_ BK449 1 (.int .i64 a1_1); have hcz84_2 := cz_ BK449 2 (.int .i64 a1_2); have hcz84_3 := cz_ BK449 3 (.int .i64 a1_3); have hcz84_4 := cz_ BK449 4 (.string a1_4); have hfz84_0 := blk_frozen BK449.out 0; have hfz84_1 := blk_frozen BK449.out 1; have hfz84_2 := blk_frozen BK449.out 2; have hfz84_3 := blk_frozen BK449.out 3; have hfz84_4 := blk_frozen BK449.out 4) | ((with_reducible refine gate_callee (f := 51) rfl ?_); refine gl_ 7 Tryd.func51 #[.agg #[.int .i64 a1_0, .int .i64 a1_1, .int .i64 a1_2, .int .i64 a1_3, .string a1_4]] ?_; (with_reducible refine (midrangeref04_OpErr.calls a1_0 a1_1 a1_2 a1_3 a1_4 t451 _ A3.out).mono ?_); rintro e w85 ⟨rfl, hb⟩; refine ⟨_, rfl, ?_⟩; replace BK448 := kb_ BK448 hb; replace BK449 := kb_ BK449 hb; replace BK450 := kb_ BK450 hb; replace HB := sb_ HB hb; (try clear hb); (try clear hb2); (try clear hk); (try clear hi); have hnb86 := NB450_448.out; have hnc86 := NB448_450.out; have hcz87_0 := cz_ BK450 0 (.slice none 0 0); have hcz87_1 := cz_ BK450 1 (.int .i64 0); have hcz87_2 := cz_ BK450 2 (.int .i64 0); have hcz87_3 := cz_ BK450 3 (.string (⟨#[]⟩ : ByteArray)); have hcz87_4 := cz_ BK450 4 (.int .i64 0); have hfz87_0 := blk_frozen BK450.out 0; have hfz87_1 := blk_frozen BK450.out 1; have hfz87_2 := blk_frozen BK450.out 2; have hfz87_3 := blk_frozen BK450.out 3; have hfz87_4 := blk_frozen BK450.out 4))
 refine bodyPost_ret (results_cell_row rfl _ _ gb450 51 #[.slice none 0 0, .int .i64 0, .int .i64 0, .string (⟨#[]⟩ : ByteArray), .int .i64 t451] (0, 0) _ rfl (bq_ BK450) Tryd.underlying51 rfl (by kernel_rfl)) rfl ?_
 exact ⟨_, er_, by first | exact Kd.R_nil _ _ _ _ _ | exact Kd.N_nil _ _ _ _ _ | exact Kd.V_nil _ _ _ _ _ | exact Kd.Q_nil _ _ _ _ _ | exact Kd.S_nil _ _ _ _ _, pb_ HB⟩
def midrangeref04_Applied.l0 : Nat → List (S26) → Int → List (S46) → Int → Option ((List (S46)) × Int × Int × ByteArray × Int)
  | 0, _, _, _, _ => none
  | k + 1, x1, x6, x488000, x488001 => if x6 < (x1.length : Int) then (if 0 ≤ x6 then ((midrangeref04_Done.f k x488000 x488001 ((rd_T26 x1 x6).f0) ((rd_T26 x1 x6).f1) ((rd_T26 x1 x6).f2) ((rd_T26 x1 x6).f3) ((rd_T26 x1 x6).f4)).bind fun bt498 => (if bt498.2.2.2.2 = 0 then (midrangeref04_Applied.l0 k x1 (wrap64 (x6 + 1)) bt498.1 bt498.2.1) else (some (([] : List (S46)), 0, x6, (⟨#[]⟩ : ByteArray), bt498.2.2.2.2)))) else (none)) else ((midrangeref04_Own.f x488000 x488001).bind fun bt506 => (some (bt506.1, bt506.2, (x1.length : Int), (⟨#[]⟩ : ByteArray), 0)))
def midrangeref04_Applied.f (k : Nat) (l0_0 : List (S46)) (a0_1 : Int) (l1 : List (S26)) : Option ((List (S46)) × Int × Int × ByteArray × Int) := (midrangeref04_Err.f k l0_0 a0_1).bind fun t489 => (if t489 = 0 then (if (l1.length : Int) > 40 then ((midrangeref04_failed.f 2).bind fun bt490 => (some (bt490.1, bt490.2.1, bt490.2.2.1, bt490.2.2.2.1, bt490.2.2.2.2))) else (midrangeref04_Applied.l0 k l1 0 l0_0 a0_1)) else (some (([] : List (S46)), 0, 0, (⟨#[]⟩ : ByteArray), t489)))
def midrangeref04_Applied.T9 : Bool × List (List Nat × List Nat) := (true, [([], []), ([], []), ([], []), ([1, 2], [1, 2]), ([3], [3]), ([0, 4], [0, 4]), ([], []), ([6, 5, 5, 0, 1, 2, 3, 4, 5, 6], [5, 6])])
def midrangeref04_Applied.B9 : List Nat := [0, 0, 0, 6, 14, 31, 0, 127]
theorem midrangeref04_Applied.tab9 : rtab .any (opsOf Tryd.f18 9) = midrangeref04_Applied.T9 := by kernel_rfl
theorem midrangeref04_Applied.bits9 : waitsOk midrangeref04_Applied.T9.2 midrangeref04_Applied.B9 = true := by kernel_rfl
set_option maxHeartbeats 8000000 in
set_option maxRecDepth 100000 in
theorem midrangeref04_Applied.calls (k : Nat) (P0_0_ : Nat → Prop) (A0_0 : Option Addr) (c0_0 : Nat) (l0_0 : List (S46)) (a0_1 : Int) (A1 : Option Addr) (c1 : Nat) (l1 : List (S26)) (r1 : List (S46)) (r2 : Int) (r3 : Int) (r4 : ByteArray) (r5 : Int) (w : World) (hs0_0 : Kd.V k46 46 w w.heap.size (fun k_ => P0_0_ k_) (.slice A0_0 l0_0.length c0_0) l0_0) (hr1 : Kd.C k26 w A1 l1.length l1) (hc1 : l1.length ≤ c1) (h : midrangeref04_Applied.f k l0_0 a0_1 l1 = some (r1, r2, r3, r4, r5)) :
  Calls Tryd.prog 18 #[.agg #[.slice A0_0 l0_0.length c0_0, .int .i64 a0_1], .slice A1 l1.length c1] w fun e w' => ∃ v0_ : Value, e = .returned (.agg #[v0_, .int .i64 r2, .int .i64 r3, .string r4, .int .i64 r5]) ∧ Kd.R k46 46 w' w.heap.size (fun k_ => (w.heap.size ≤ k_)) v0_ r1 ∧ Below w.heap.size w w' := by
 have hu24 := Tryd.underlying24
 have hu51 := Tryd.underlying51
 have hu26 := Tryd.underlying26
 have HO0_0 := Aside0.mk (show Kd.V k46 46 w w.heap.size (fun k_ => (P0_0_ k_ ∨ w.heap.size ≤ k_)) (.slice A0_0 l0_0.length c0_0) l0_0 from Kd.V_mono hs0_0 (fun k_ hk => .inl hk))
 have HR1 := Aside0.mk hr1
 have HC1 := Aside0.mk hc1
 clear hr1 hc1
 have HB := Aside0.mk (Below.refl w.heap.size w)
 have H : ((midrangeref04_Err.f k l0_0 a0_1).bind fun t489 => (if t489 = 0 then (if (l1.length : Int) > 40 then ((midrangeref04_failed.f 2).bind fun bt490 => (some (bt490.1, bt490.2.1, bt490.2.2.1, bt490.2.2.2.1, bt490.2.2.2.2))) else (midrangeref04_Applied.l0 k l1 0 l0_0 a0_1)) else (some (([] : List (S46)), 0, 0, (⟨#[]⟩ : ByteArray), t489)))) = some (r1, r2, r3, r4, r5) := h
 clear h
 replace H := Option.bind_eq_some_iff.mp H
 obtain ⟨t489, A30, H⟩ := H
 replace H : (if t489 = 0 then (if (l1.length : Int) > 40 then ((midrangeref04_failed.f 2).bind fun bt490 => (some (bt490.1, bt490.2.1, bt490.2.2.1, bt490.2.2.2.1, bt490.2.2.2.2))) else (midrangeref04_Applied.l0 k l1 0 l0_0 a0_1)) else (some (([] : List (S46)), 0, 0, (⟨#[]⟩ : ByteArray), t489))) = some (r1, r2, r3, r4, r5) := H
 have A3 := Aside0.mk A30
 clear A30
 by_cases c4 : t489 = 0
 ·
  rw [if_pos c4] at H
  have c4b0 : (t489 == 0) = true := beq_iff_eq.mpr c4
  have c4b1 : (t489 != 0) = false := bne_eq_false_iff_eq.mpr c4
  clear c4
  by_cases c5 : (l1.length : Int) > 40
  ·
   rw [if_pos c5] at H
   have c5b0 : decide (40 < (l1.length : Int)) = true := decide_eq_true c5
   have c5b1 : decide (40 < l1.length) = true := decide_eq_true (by omega)
   clear c5
   replace H := Option.bind_eq_some_iff.mp H
   obtain ⟨⟨t490, t493, t494, t495, t496⟩, A60, H⟩ := H
   replace H : (some (t490, t493, t494, t495, t496)) = some (r1, r2, r3, r4, r5) := H
   have A6 := Aside0.mk A60
   clear A60
   simp only [Option.some.injEq, Prod.mk.injEq] at H
   obtain ⟨rfl, rfl, rfl, rfl, rfl⟩ := H
   go_enter Tryd.func18, Tryd.ntmps18
   go_wp2_with (first | ((with_reducible refine gate_dst (N := 2) rfl ?_); refine bx_ 2 #[.slice A0_0 l0_0.length c0_0, .int .i64 a0_1] 24 ?_; intro gb487 hg w7 hbox hb; replace HO0_0 := Aside0.mk (Kd.V_below (Kd.V_elderB (by (with_reducible repeat (first | apply Kd.V_alloc | apply Kd.V_drewN | apply Kd.V_drew)); exact HO0_0.out) gb487 (Nat.le_of_eq hg.symm)) hb); have BK487 := Aside0.mk (hbox); have GW487 := gw_ hg HB; have GE487 := gw_ hg HB; replace HB := sb_ HB hb; clear hb hbox hg) | ((with_reducible refine gate_dst (N := 4) rfl ?_); refine bx_ 4 #[.slice none 0 0, .int .i64 0, .int .i64 0, .string (⟨#[]⟩ : ByteArray), .int .i64 0] 51 ?_; intro gb488 hg w8 hbox hb; replace HO0_0 := Aside0.mk (Kd.V_below (Kd.V_elderB (by (with_reducible repeat (first | apply Kd.V_alloc | apply Kd.V_drewN | apply Kd.V_drew)); exact HO0_0.out) gb488 (Nat.le_of_eq hg.symm)) hb); have BK488 := Aside0.mk (hbox); have GW488 := gw_ hg HB; have GE488 := gw_ hg HB; replace HB := sb_ HB hb; have NB487_488 := nl_ hg BK487; have NB488_487 := ng_ hg BK487; replace BK487 := kb_ BK487 hb; clear hb hbox hg; have hnb9 := NB487_488.out; have hnc9 := NB488_487.out; have hcz10_0 := cz_ BK487 0 (.slice A0_0 l0_0.length c0_0); have hcz10_1 := cz_ BK487 1 (.int .i64 a0_1); have hfz10_0 := blk_frozen BK487.out 0; have hfz10_1 := blk_frozen BK487.out 1) | ((with_reducible refine gate_callee (f := 37) rfl ?_); refine gl_ 9 Tryd.func37 #[.agg #[.slice A0_0 l0_0.length c0_0, .int .i64 a0_1]] ?_; (with_reducible refine (midrangeref04_Err.calls k _ _ l0_0 a0_1 t489 _ ?side1 ?side2 A3.out).mono ?_); (case side1 => exact pc_ (Kd.V_reads' HO0_0.out).2.2); (case side2 => exact (Kd.V_reads' HO0_0.out).2.1); rintro e w11 ⟨rfl, hb⟩; refine ⟨_, rfl, ?_⟩; replace HO0_0 := Aside0.mk (Kd.V_below (by (with_reducible repeat (first | apply Kd.V_alloc | apply Kd.V_drewN | apply Kd.V_drew)); exact HO0_0.out) hb); replace BK487 := kb_ BK487 hb; replace BK488 := kb_ BK488 hb; replace HB := sb_ HB hb; (try clear hb); (try clear hb2); (try clear hk); (try clear hi)) | ((with_reducible refine gate_callee (f := 38) rfl ?_); refine gl_ 17 Tryd.func38 #[.int .i64 2] ?_; (with_reducible refine (midrangeref04_failed.calls 2 t490 t493 t494 t495 t496 _ A6.out).mono ?_); rintro e w12 ⟨v491, rfl, ho0, hb⟩; refine ⟨_, rfl, ?_⟩; replace HO0_0 := Aside0.mk (Kd.V_elder' (by (with_reducible repeat (first | apply Kd.V_alloc | apply Kd.V_drewN | apply Kd.V_drew)); exact HO0_0.out) (Kd.R_base ho0) hb); have HO492 := Aside0.mk (Kd.R_lower (Kd.R_newM (M := fun k_ => (w.heap.size ≤ k_)) ho0 (below_size (pb_ HB)) (fun k_ h_ => h_)) (below_size (pb_ HB))); replace BK487 := kb_ BK487 hb; replace BK488 := kb_ BK488 hb; replace HB := sb_ HB hb; (try clear hb); (try clear hb2); (try clear hk); (try clear hi); (try clear ho0); obtain ⟨Ao13, co13, eo13⟩ := Kd.R_slice HO492.out; subst eo13; have hcz14_0 := cz_ BK488 0 (.slice none 0 0); have hcz14_1 := cz_ BK488 1 (.int .i64 0); have hcz14_2 := cz_ BK488 2 (.int .i64 0); have hcz14_3 := cz_ BK488 3 (.string (⟨#[]⟩ : ByteArray)); have hcz14_4 := cz_ BK488 4 (.int .i64 0); have hfz14_0 := blk_frozen BK488.out 0; have hfz14_1 := blk_frozen BK488.out 1; have hfz14_2 := blk_frozen BK488.out 2; have hfz14_3 := blk_frozen BK488.out 3; have hfz14_4 := blk_frozen BK488.out 4))
   refine bodyPost_ret (results_cell_row rfl _ _ gb488 51 #[.slice Ao13 t490.length co13, .int .i64 t493, .int .i64 t494, .string t495, .int .i64 t496] (0, 0) _ rfl (bq_ BK488) Tryd.underlying51 rfl (by kernel_rfl)) rfl ?_
   exact ⟨_, er_, by (with_reducible repeat (first | apply Kd.R_alloc | apply Kd.R_drewN | apply Kd.R_drew)); exact Kd.R_mono (Kd.R_far (p := ⟨gb488, 4, none⟩) (Kd.R_far (p := ⟨gb488, 3, none⟩) (Kd.R_far (p := ⟨gb488, 2, none⟩) (Kd.R_far (p := ⟨gb488, 1, none⟩) (Kd.R_far (p := ⟨gb488, 0, none⟩) (Kd.R_types HO492.out BK488.out (by decide)) (fun _ hk => hk.2) (.slice Ao13 t490.length co13)) (fun _ hk => hk.2) (.int .i64 t493)) (fun _ hk => hk.2) (.int .i64 t494)) (fun _ hk => hk.2) (.string t495)) (fun _ hk => hk.2) (.int .i64 t496)) (fun _ hk => hk.1.1), pb_ HB⟩
  rw [if_neg c5] at H
  have c5b0 : decide (40 < (l1.length : Int)) = false := decide_eq_false c5
  have c5b1 : decide (40 < l1.length) = false := decide_eq_false (by omega)
  clear c5
  have H' := Aside0.mk H
  clear H
  go_enter Tryd.func18, Tryd.ntmps18
  go_wp2_with (first | ((with_reducible refine gate_dst (N := 2) rfl ?_); refine bx_ 2 #[.slice A0_0 l0_0.length c0_0, .int .i64 a0_1] 24 ?_; intro gb487 hg w15 hbox hb; replace HO0_0 := Aside0.mk (Kd.V_below (Kd.V_elderB (by (with_reducible repeat (first | apply Kd.V_alloc | apply Kd.V_drewN | apply Kd.V_drew)); exact HO0_0.out) gb487 (Nat.le_of_eq hg.symm)) hb); have BK487 := Aside0.mk (hbox); have GW487 := gw_ hg HB; have GE487 := gw_ hg HB; replace HB := sb_ HB hb; clear hb hbox hg) | ((with_reducible refine gate_dst (N := 4) rfl ?_); refine bx_ 4 #[.slice none 0 0, .int .i64 0, .int .i64 0, .string (⟨#[]⟩ : ByteArray), .int .i64 0] 51 ?_; intro gb488 hg w16 hbox hb; replace HO0_0 := Aside0.mk (Kd.V_below (Kd.V_elderB (by (with_reducible repeat (first | apply Kd.V_alloc | apply Kd.V_drewN | apply Kd.V_drew)); exact HO0_0.out) gb488 (Nat.le_of_eq hg.symm)) hb); have BK488 := Aside0.mk (hbox); have GW488 := gw_ hg HB; have GE488 := gw_ hg HB; replace HB := sb_ HB hb; have NB487_488 := nl_ hg BK487; have NB488_487 := ng_ hg BK487; replace BK487 := kb_ BK487 hb; clear hb hbox hg; have hnb17 := NB487_488.out; have hnc17 := NB488_487.out; have hcz18_0 := cz_ BK487 0 (.slice A0_0 l0_0.length c0_0); have hcz18_1 := cz_ BK487 1 (.int .i64 a0_1); have hfz18_0 := blk_frozen BK487.out 0; have hfz18_1 := blk_frozen BK487.out 1) | ((with_reducible refine gate_callee (f := 37) rfl ?_); refine gl_ 9 Tryd.func37 #[.agg #[.slice A0_0 l0_0.length c0_0, .int .i64 a0_1]] ?_; (with_reducible refine (midrangeref04_Err.calls k _ _ l0_0 a0_1 t489 _ ?side1 ?side2 A3.out).mono ?_); (case side1 => exact pc_ (Kd.V_reads' HO0_0.out).2.2); (case side2 => exact (Kd.V_reads' HO0_0.out).2.1); rintro e w19 ⟨rfl, hb⟩; refine ⟨_, rfl, ?_⟩; replace HO0_0 := Aside0.mk (Kd.V_below (by (with_reducible repeat (first | apply Kd.V_alloc | apply Kd.V_drewN | apply Kd.V_drew)); exact HO0_0.out) hb); replace BK487 := kb_ BK487 hb; replace BK488 := kb_ BK488 hb; replace HB := sb_ HB hb; (try clear hb); (try clear hb2); (try clear hk); (try clear hi)))
  go_loopg [6] k (fun kq v6 w' => ∃ (x6_1 : Int) (x488000_1 : List (S46)) (x488001_1 : Int) (x489001_1 : Int) (x489002_1 : Int) (x489003_1 : ByteArray) (x489004_1 : Int) (u488000 : Value), v6 = .int .i64 x6_1 ∧ Aside0 (midrangeref04_Applied.l0 kq l1 x6_1 x488000_1 x488001_1 = some (r1, r2, r3, r4, r5)) ∧ Aside0 (kq ≤ k) ∧ Aside0 (Kd.V k46 46 w' w.heap.size (fun k_ => (P0_0_ k_ ∨ w.heap.size ≤ k_) ∧ k_ ≠ gb487 ∧ k_ ≠ gb488) u488000 x488000_1) ∧ Aside0 (w'.heap[gb487]? = some (.cells #[u488000, .int .i64 x488001_1] 24 (0, 0))) ∧ Aside0 (w'.heap[gb488]? = some (.cells #[(.slice none 0 0), .int .i64 x489001_1, .int .i64 x489002_1, .string x489003_1, .int .i64 x489004_1] 51 (0, 0))) ∧ Aside0 (Below w.heap.size w w'))
  case atStart => exact ⟨(0), (l0_0), (a0_1), (0), (0), ((⟨#[]⟩ : ByteArray)), (0), (.slice A0_0 l0_0.length c0_0), rl_, H', ⟨Nat.le_refl _⟩, ⟨by (with_reducible repeat (first | apply Kd.V_alloc | apply Kd.V_drewN | apply Kd.V_drew)); exact Kd.V_mono HO0_0.out (fun _ hk => ⟨hk.1.1, ⟨hk.1.2, hk.2⟩⟩)⟩, ⟨pk_ BK487⟩, ⟨pk_ BK488⟩, ⟨pb_ HB⟩⟩
  case round =>
   clear H'
   try clear c1
   try clear p2
   try clear c3
   try clear c4
   try clear c4b0
   try clear c4b1
   try clear c5
   try clear c5b0
   try clear c5b1
   try clear c9
   try clear c17
   try clear c18
   try clear hcz10_0
   try clear hcz10_1
   try clear hcz14_0
   try clear hcz14_1
   try clear hcz14_2
   try clear hcz14_3
   try clear hcz14_4
   try clear hcz18_0
   try clear hcz18_1
   try clear hfz10_0
   try clear hfz10_1
   try clear hfz14_0
   try clear hfz14_1
   try clear hfz14_2
   try clear hfz14_3
   try clear hfz14_4
   try clear hfz18_0
   try clear hfz18_1
   obtain ⟨x6_1, x488000_1, x488001_1, x489001_1, x489002_1, x489003_1, x489004_1, u488000, rfl, HA, HK1, HO_488000, BK487, BK488, HB⟩ := hrel
   cases gk with
   | zero => exact absurd HA.out (by simp [midrangeref04_Applied.l0])
   | succ k1 =>
    have H := HA.out
    clear HA
    simp only [midrangeref04_Applied.l0] at H
    by_cases c20 : x6_1 < (l1.length : Int)
    ·
     rw [if_pos c20] at H
     have c20b0 : decide (x6_1 < (l1.length : Int)) = true := decide_eq_true c20
     clear c20
     by_cases c21 : 0 ≤ x6_1
     ·
      rw [if_pos c21] at H
      have c21b0 : decide (0 ≤ x6_1) = true := decide_eq_true c21
      clear c21
      replace H := Option.bind_eq_some_iff.mp H
      obtain ⟨⟨t498, t501, t502, t503, t504⟩, A220, H⟩ := H
      replace H : (if t504 = 0 then (midrangeref04_Applied.l0 k1 l1 (wrap64 (x6_1 + 1)) t498 t501) else (some (([] : List (S46)), 0, x6_1, (⟨#[]⟩ : ByteArray), t504))) = some (r1, r2, r3, r4, r5) := H
      have A22 := Aside0.mk A220
      clear A220
      by_cases c23 : t504 = 0
      ·
       rw [if_pos c23] at H
       have c23b0 : (t504 == 0) = true := beq_iff_eq.mpr c23
       have c23b1 : (t504 != 0) = false := bne_eq_false_iff_eq.mpr c23
       clear c23
       have H' := Aside0.mk H
       clear H
       obtain ⟨Ao24, co24, eo24⟩ := Kd.V_slice HO_488000.out
       subst eo24
       try go_wp2
       replace HO_488000 := Aside0.mk (Kd.V_drew HO_488000.out)
       replace BK487 := Aside0.mk (blk_drew BK487.out)
       replace BK488 := Aside0.mk (blk_drew BK488.out)
       replace HB := Aside0.mk (below_drew1 HB.out)
       have p497 : 0 ≤ (x6_1 : Int) := ct_
       have q497 : x6_1 < (l1.length : Int) := ct_
       obtain ⟨ad497, e497, hx497_0, hx497_1, hx497_2, hx497_3, hx497_4⟩ := at_T26 HR1.out x6_1 p497 q497
       have hw497_4 := hx497_4
       have hw497_3 := hx497_3
       have hw497_2 := hx497_2
       have hw497_1 := hx497_1
       have hw497_0 := hx497_0
       cases e497
       replace hx497_0 := pw_cell_below HB.out hx497_0
       replace hx497_1 := pw_cell_below HB.out hx497_1
       replace hx497_2 := pw_cell_below HB.out hx497_2
       replace hx497_3 := pw_cell_below HB.out hx497_3
       replace hx497_4 := pw_cell_below HB.out hx497_4
       replace p497 := eq_true p497
       replace q497 := eq_true q497
       refine start_ (n := 8) (S := fun w' => w'.cell? ⟨gb487, 0, none⟩ = some (.slice Ao24 x488000_1.length co24) ∧ w'.cell? ⟨gb487, 1, none⟩ = some (.int .i64 x488001_1) ∧ w'.cell? (ad497.add ((x6_1).toNat * 5)) = some (.int .i64 ((rd_T26 l1 x6_1).f0)) ∧ w'.cell? ⟨(ad497.add ((x6_1).toNat * 5)).block, (ad497.add ((x6_1).toNat * 5)).off + 1, none⟩ = some (.int .i64 ((rd_T26 l1 x6_1).f1)) ∧ w'.cell? ⟨(ad497.add ((x6_1).toNat * 5)).block, (ad497.add ((x6_1).toNat * 5)).off + 2, none⟩ = some (.int .i64 ((rd_T26 l1 x6_1).f2)) ∧ w'.cell? ⟨(ad497.add ((x6_1).toNat * 5)).block, (ad497.add ((x6_1).toNat * 5)).off + 3, none⟩ = some (.int .i64 ((rd_T26 l1 x6_1).f3)) ∧ w'.cell? ⟨(ad497.add ((x6_1).toNat * 5)).block, (ad497.add ((x6_1).toNat * 5)).off + 4, none⟩ = some (.string ((rd_T26 l1 x6_1).f4))) (ds := []) #[false, false, false, false, false, false, false, false] (by kernel_rfl) rfl rfl ⟨cy_ BK487 0, cy_ BK487 1, (pw_cell_below HB.out hw497_0), (pw_cell_below HB.out hw497_1), (pw_cell_below HB.out hw497_2), (pw_cell_below HB.out hw497_3), (pw_cell_below HB.out hw497_4)⟩ (fun hHeld => ?_); refine with_tabW midrangeref04_Applied.tab9 midrangeref04_Applied.bits9 (fun HT_ HW_ => ?_)
       generalize wr.drew = w25 at HO_488000 BK487 BK488 HB hx497_0 hx497_1 hx497_2 hx497_3 hx497_4 hHeld ⊢
       refine pu_ 1 25 HT_ ?_
       refine pu_ 2 26 HT_ ?_
       refine pu_ 3 27 HT_ ?_
       refine tk_ 0 24 HT_ HW_ hHeld rfl (Or.inl ⟨by rfl, by rintro w' ⟨s0, s1, s2, s3, s4, s5, s6⟩; go_simp; with_reducible rfl⟩) ?_
       refine tk_ 4 28 HT_ HW_ hHeld rfl (Or.inl ⟨by rfl, by rintro w' ⟨s0, s1, s2, s3, s4, s5, s6⟩; go_simp; with_reducible rfl⟩) ?_
       refine join_ (σ := Value × Nat) 1 #[true, true, true, true, true, true, true, false] (fun s_ => [(29, .agg #[s_.1, .int .i64 t501, .int .i64 t502, .string t503, .int .i64 t504]), (7, .pointer (some ⟨s_.2, 0, none⟩))]) (fun s_ w' => (w'.cell? ⟨gb487, 0, none⟩ = some (.slice Ao24 x488000_1.length co24) ∧ w'.cell? ⟨gb487, 1, none⟩ = some (.int .i64 x488001_1) ∧ w'.cell? (ad497.add ((x6_1).toNat * 5)) = some (.int .i64 ((rd_T26 l1 x6_1).f0)) ∧ w'.cell? ⟨(ad497.add ((x6_1).toNat * 5)).block, (ad497.add ((x6_1).toNat * 5)).off + 1, none⟩ = some (.int .i64 ((rd_T26 l1 x6_1).f1)) ∧ w'.cell? ⟨(ad497.add ((x6_1).toNat * 5)).block, (ad497.add ((x6_1).toNat * 5)).off + 2, none⟩ = some (.int .i64 ((rd_T26 l1 x6_1).f2)) ∧ w'.cell? ⟨(ad497.add ((x6_1).toNat * 5)).block, (ad497.add ((x6_1).toNat * 5)).off + 3, none⟩ = some (.int .i64 ((rd_T26 l1 x6_1).f3)) ∧ w'.cell? ⟨(ad497.add ((x6_1).toNat * 5)).block, (ad497.add ((x6_1).toNat * 5)).off + 4, none⟩ = some (.string ((rd_T26 l1 x6_1).f4))) ∧ (Kd.R k46 46 w' w.heap.size (fun k_ => (w.heap.size ≤ k_)) s_.1 t498) ∧ (Kd.V k46 46 w' w.heap.size (fun k_ => (P0_0_ k_ ∨ w.heap.size ≤ k_) ∧ some k_ ≠ (s_.1 : Value).ownBlock ∧ k_ ≠ gb487 ∧ k_ ≠ gb488 ∧ k_ ≠ s_.2) (.slice Ao24 x488000_1.length co24) x488000_1) ∧ (w'.heap[gb487]? = some (.cells #[.slice Ao24 x488000_1.length co24, .int .i64 x488001_1] 24 (0, 0))) ∧ (w'.heap[gb488]? = some (.cells #[.slice none 0 0, .int .i64 x489001_1, .int .i64 x489002_1, .string x489003_1, .int .i64 x489004_1] 51 (0, 0))) ∧ (w'.heap[s_.2]? = some (.cells #[.slice none 0 0, .int .i64 0, .int .i64 0, .string (⟨#[]⟩ : ByteArray), .int .i64 0] 51 (0, 0))) ∧ (w.heap.size ≤ s_.2) ∧ (w.heap.size ≤ s_.2) ∧ (gb487 ≠ s_.2) ∧ (s_.2 ≠ gb487) ∧ (gb488 ≠ s_.2) ∧ (s_.2 ≠ gb488) ∧ (Below w.heap.size w w')) ?_ ?_
       rotate_left
       ·
        intro hCont
        refine two_ (i := 5) (j := 6) (Ni := some 29) (Nj := some 7) #[true, true, true, true, true, true, false, false] #[true, true, true, true, true, false, true, false] rfl rfl rfl rfl (two_of HT_.out (by kernel_rfl)) (by decide) (by decide) (fun K hK => ?_) (fun K hK => ?_)
        ·
         refine goes_ Tryd.func39 (by kernel_rfl) rfl #[.agg #[.slice Ao24 x488000_1.length co24, .int .i64 x488001_1], .agg #[.int .i64 ((rd_T26 l1 x6_1).f0), .int .i64 ((rd_T26 l1 x6_1).f1), .int .i64 ((rd_T26 l1 x6_1).f2), .int .i64 ((rd_T26 l1 x6_1).f3), .string ((rd_T26 l1 x6_1).f4)]] (by rfl) rfl rfl (by (try simp only [List.map_toArray, List.map_cons, List.map_nil]); first | done | rfl | (simp only [List.length_drop, List.length_take]; rfl)) ?_
         with_reducible refine (midrangeref04_Done.calls k1 _ _ x488000_1 x488001_1 ((rd_T26 l1 x6_1).f0) ((rd_T26 l1 x6_1).f1) ((rd_T26 l1 x6_1).f2) ((rd_T26 l1 x6_1).f3) ((rd_T26 l1 x6_1).f4) t498 t501 t502 t503 t504 _ ?side1 ?side2 A22.out).mono ?_
         (case side1 => exact pc_ (Kd.V_reads' HO_488000.out).2.2)
         (case side2 => exact (Kd.V_reads' HO_488000.out).2.1)
         rintro e w26 ⟨v499, rfl, ho0, hb⟩
         refine ⟨_, rfl, ?_⟩
         replace HO_488000 := Aside0.mk (Kd.V_elder' (by (with_reducible repeat (first | apply Kd.V_alloc | apply Kd.V_drewN | apply Kd.V_drew)); exact HO_488000.out) (Kd.R_base ho0) hb)
         have HO500 := Aside0.mk (Kd.R_lower (Kd.R_newM (M := fun k_ => (w.heap.size ≤ k_)) ho0 (below_size (pb_ HB)) (fun k_ h_ => h_)) (below_size (pb_ HB)))
         replace BK487 := kb_ BK487 hb
         replace BK488 := kb_ BK488 hb
         replace HB := sb_ HB hb
         (try clear hb)
         (try clear hb2)
         (try clear hk)
         (try clear hi)
         (try clear ho0)
         refine hK.out _ _ ⟨cy_ BK487 0, cy_ BK487 1, (pw_cell_below HB.out hw497_0), (pw_cell_below HB.out hw497_1), (pw_cell_below HB.out hw497_2), (pw_cell_below HB.out hw497_3), (pw_cell_below HB.out hw497_4)⟩ (fun hHeld => ?_)
         clear hK K
         refine nn_ 29 ?_
         refine one_ (i := 6) (N := some 7) #[true, true, true, true, true, true, true, false] rfl rfl (one_of HT_.out (by kernel_rfl)) (by decide) (fun K hK => ?_)
         refine box_step ?hg (N := 7) ?hd (cs := #[.slice none 0 0, .int .i64 0, .int .i64 0, .string (⟨#[]⟩ : ByteArray), .int .i64 0]) (t := 51) ?hr ?_; (case hd => rfl); (case hg => rfl); (case hr => first | (go_simp; done) | (go_simp; rfl))
         intro gb505 hg w27 hbox hb
         replace HO_488000 := Aside0.mk (Kd.V_below (Kd.V_elderB (by (with_reducible repeat (first | apply Kd.V_alloc | apply Kd.V_drewN | apply Kd.V_drew)); exact HO_488000.out) gb505 (Nat.le_of_eq hg.symm)) hb)
         replace HO500 := Aside0.mk (Kd.R_below (rk_ HO500) hb)
         have BK505 := Aside0.mk (hbox)
         have GW505 := gw_ hg HB
         have GE505 := gw_ hg HB
         replace HB := sb_ HB hb
         have NB487_505 := nl_ hg BK487
         have NB505_487 := ng_ hg BK487
         replace BK487 := kb_ BK487 hb
         have NB488_505 := nl_ hg BK488
         have NB505_488 := ng_ hg BK488
         replace BK488 := kb_ BK488 hb
         clear hb hbox hg
         refine hK.out _ _ ⟨cy_ BK487 0, cy_ BK487 1, (pw_cell_below HB.out hw497_0), (pw_cell_below HB.out hw497_1), (pw_cell_below HB.out hw497_2), (pw_cell_below HB.out hw497_3), (pw_cell_below HB.out hw497_4)⟩ (fun hHeld => ?_)
         clear hK K
         refine nn_ 7 ?_
         exact norm_ (by simp only [putAll, Act.put, List.setIfInBounds_toArray, List.set_cons_zero, List.set_cons_succ]) (hCont (v499, gb505) _ ⟨hHeld, (by (with_reducible repeat (first | apply Kd.R_alloc | apply Kd.R_drewN | apply Kd.R_drew)); exact Kd.R_mono HO500.out (fun _ hk => hk.1)), (by (with_reducible repeat (first | apply Kd.V_alloc | apply Kd.V_drewN | apply Kd.V_drew)); exact Kd.V_mono HO_488000.out (fun _ hk => ⟨hk.1.1.1, ⟨hk.1.2, ⟨hk.1.1.2.1, ⟨hk.1.1.2.2, hk.2⟩⟩⟩⟩)), (pk_ BK487), (pk_ BK488), (pk_ BK505), GW505.out, GE505.out, NB487_505.out, NB505_487.out, NB488_505.out, NB505_488.out, (pb_ HB)⟩)
        skip
        refine box_step ?hg (N := 7) ?hd (cs := #[.slice none 0 0, .int .i64 0, .int .i64 0, .string (⟨#[]⟩ : ByteArray), .int .i64 0]) (t := 51) ?hr ?_; (case hd => rfl); (case hg => rfl); (case hr => first | (go_simp; done) | (go_simp; rfl))
        intro gb505 hg w26 hbox hb
        replace HO_488000 := Aside0.mk (Kd.V_below (Kd.V_elderB (by (with_reducible repeat (first | apply Kd.V_alloc | apply Kd.V_drewN | apply Kd.V_drew)); exact HO_488000.out) gb505 (Nat.le_of_eq hg.symm)) hb)
        have BK505 := Aside0.mk (hbox)
        have GW505 := gw_ hg HB
        have GE505 := gw_ hg HB
        replace HB := sb_ HB hb
        have NB487_505 := nl_ hg BK487
        have NB505_487 := ng_ hg BK487
        replace BK487 := kb_ BK487 hb
        have NB488_505 := nl_ hg BK488
        have NB505_488 := ng_ hg BK488
        replace BK488 := kb_ BK488 hb
        clear hb hbox hg
        refine hK.out _ _ ⟨cy_ BK487 0, cy_ BK487 1, (pw_cell_below HB.out hw497_0), (pw_cell_below HB.out hw497_1), (pw_cell_below HB.out hw497_2), (pw_cell_below HB.out hw497_3), (pw_cell_below HB.out hw497_4)⟩ (fun hHeld => ?_)
        clear hK K
        refine nn_ 7 ?_
        refine one_ (i := 5) (N := some 29) #[true, true, true, true, true, true, true, false] rfl rfl (one_of HT_.out (by kernel_rfl)) (by decide) (fun K hK => ?_)
        refine goes_ Tryd.func39 (by kernel_rfl) rfl #[.agg #[.slice Ao24 x488000_1.length co24, .int .i64 x488001_1], .agg #[.int .i64 ((rd_T26 l1 x6_1).f0), .int .i64 ((rd_T26 l1 x6_1).f1), .int .i64 ((rd_T26 l1 x6_1).f2), .int .i64 ((rd_T26 l1 x6_1).f3), .string ((rd_T26 l1 x6_1).f4)]] (by rfl) rfl rfl (by (try simp only [List.map_toArray, List.map_cons, List.map_nil]); first | done | rfl | (simp only [List.length_drop, List.length_take]; rfl)) ?_
        with_reducible refine (midrangeref04_Done.calls k1 _ _ x488000_1 x488001_1 ((rd_T26 l1 x6_1).f0) ((rd_T26 l1 x6_1).f1) ((rd_T26 l1 x6_1).f2) ((rd_T26 l1 x6_1).f3) ((rd_T26 l1 x6_1).f4) t498 t501 t502 t503 t504 _ ?side1 ?side2 A22.out).mono ?_
        (case side1 => exact pc_ (Kd.V_reads' HO_488000.out).2.2)
        (case side2 => exact (Kd.V_reads' HO_488000.out).2.1)
        rintro e w27 ⟨v499, rfl, ho0, hb⟩
        refine ⟨_, rfl, ?_⟩
        replace HO_488000 := Aside0.mk (Kd.V_elder' (by (with_reducible repeat (first | apply Kd.V_alloc | apply Kd.V_drewN | apply Kd.V_drew)); exact HO_488000.out) (Kd.R_base ho0) hb)
        have HO500 := Aside0.mk (Kd.R_lower (Kd.R_newM (M := fun k_ => (w.heap.size ≤ k_)) ho0 (below_size (pb_ HB)) (fun k_ h_ => h_)) (below_size (pb_ HB)))
        replace BK487 := kb_ BK487 hb
        replace BK488 := kb_ BK488 hb
        replace BK505 := kb_ BK505 hb
        replace HB := sb_ HB hb
        (try clear hb)
        (try clear hb2)
        (try clear hk)
        (try clear hi)
        (try clear ho0)
        refine hK.out _ _ ⟨cy_ BK487 0, cy_ BK487 1, (pw_cell_below HB.out hw497_0), (pw_cell_below HB.out hw497_1), (pw_cell_below HB.out hw497_2), (pw_cell_below HB.out hw497_3), (pw_cell_below HB.out hw497_4)⟩ (fun hHeld => ?_)
        clear hK K
        refine nn_ 29 ?_
        exact norm_ (by simp only [putAll, Act.put, List.setIfInBounds_toArray, List.set_cons_zero, List.set_cons_succ]) (hCont (v499, gb505) _ ⟨hHeld, (by (with_reducible repeat (first | apply Kd.R_alloc | apply Kd.R_drewN | apply Kd.R_drew)); exact Kd.R_mono HO500.out (fun _ hk => hk.1)), (by (with_reducible repeat (first | apply Kd.V_alloc | apply Kd.V_drewN | apply Kd.V_drew)); exact Kd.V_mono HO_488000.out (fun _ hk => ⟨hk.1.1.1, ⟨hk.2, ⟨hk.1.1.2.1, ⟨hk.1.1.2.2, hk.1.2⟩⟩⟩⟩)), (pk_ BK487), (pk_ BK488), (pk_ BK505), GW505.out, GE505.out, NB487_505.out, NB505_487.out, NB488_505.out, NB505_488.out, (pb_ HB)⟩)
       clear HO_488000 BK487 BK488 HB
       rintro ⟨v499, gb505⟩ w28 ⟨hHeld, HO500, HO_488000, BK487, BK488, BK505, GW505, GE505, NB487_505, NB505_487, NB488_505, NB505_488, HB⟩
       try dsimp only at hHeld HO500 HO_488000 BK487 BK488 BK505 GW505 GE505 NB487_505 NB505_487 NB488_505 NB505_488 HB
       replace HO500 := Aside0.mk HO500
       replace HO_488000 := Aside0.mk HO_488000
       replace BK487 := Aside0.mk BK487
       replace BK488 := Aside0.mk BK488
       replace BK505 := Aside0.mk BK505
       replace GW505 := Aside0.mk GW505
       replace GE505 := Aside0.mk GE505
       replace NB487_505 := Aside0.mk NB487_505
       replace NB505_487 := Aside0.mk NB505_487
       replace NB488_505 := Aside0.mk NB488_505
       replace NB505_488 := Aside0.mk NB505_488
       replace HB := Aside0.mk HB
       obtain ⟨Ao29, co29, eo29⟩ := Kd.R_slice HO500.out
       (first | subst eo29 | (injection eo29 with f1_ f2_ f3_; have f4_ := f1_.symm; have f5_ := f3_.symm; clear f1_ f2_ f3_; subst f4_; subst f5_))
       refine nm_ ?_
       refine one_ (i := 7) (N := none) #[true, true, true, true, true, true, true, true] rfl rfl (one_of HT_.out (by kernel_rfl)) (by decide) (fun K hK => ?_)
       have hs30 : w28.cell? ⟨gb505, 0, none⟩ = some (.slice none 0 0) := (blk_cell BK505.out 0).trans rfl
       have hfs30 := blk_frozen BK505.out 0
       have hns30_0 := NB487_505.out
       have hns30_1 := NB488_505.out
       have hms30_0 := NB505_487.out
       have hms30_1 := NB505_488.out
       have hs31 : w28.cell? ⟨gb505, 1, none⟩ = some (.int .i64 0) := (blk_cell BK505.out 1).trans rfl
       have hfs31 := blk_frozen BK505.out 1
       have hns31_0 := NB487_505.out
       have hns31_1 := NB488_505.out
       have hms31_0 := NB505_487.out
       have hms31_1 := NB505_488.out
       have hs32 : w28.cell? ⟨gb505, 2, none⟩ = some (.int .i64 0) := (blk_cell BK505.out 2).trans rfl
       have hfs32 := blk_frozen BK505.out 2
       have hns32_0 := NB487_505.out
       have hns32_1 := NB488_505.out
       have hms32_0 := NB505_487.out
       have hms32_1 := NB505_488.out
       have hs33 : w28.cell? ⟨gb505, 3, none⟩ = some (.string (⟨#[]⟩ : ByteArray)) := (blk_cell BK505.out 3).trans rfl
       have hfs33 := blk_frozen BK505.out 3
       have hns33_0 := NB487_505.out
       have hns33_1 := NB488_505.out
       have hms33_0 := NB505_487.out
       have hms33_1 := NB505_488.out
       have hs34 : w28.cell? ⟨gb505, 4, none⟩ = some (.int .i64 0) := (blk_cell BK505.out 4).trans rfl
       have hfs34 := blk_frozen BK505.out 4
       have hns34_0 := NB487_505.out
       have hns34_1 := NB488_505.out
       have hms34_0 := NB505_487.out
       have hms34_1 := NB505_488.out
       refine skip_ (w1 := ?_) (by rfl) rfl ?_ ?_
       rotate_left
       ·
        go_simp
        rfl
       refine hK.out _ _ ⟨((cell_far (p := ⟨gb505, _, none⟩) NB487_505.out _).trans (((cell_far (p := ⟨gb505, _, none⟩) NB487_505.out _).trans (((cell_far (p := ⟨gb505, _, none⟩) NB487_505.out _).trans (((cell_far (p := ⟨gb505, _, none⟩) NB487_505.out _).trans (((cell_far (p := ⟨gb505, _, none⟩) NB487_505.out _).trans (hHeld.1)))))))))), ((cell_far (p := ⟨gb505, _, none⟩) NB487_505.out _).trans (((cell_far (p := ⟨gb505, _, none⟩) NB487_505.out _).trans (((cell_far (p := ⟨gb505, _, none⟩) NB487_505.out _).trans (((cell_far (p := ⟨gb505, _, none⟩) NB487_505.out _).trans (((cell_far (p := ⟨gb505, _, none⟩) NB487_505.out _).trans (hHeld.2.1)))))))))), ((cell_far (p := ⟨gb505, _, none⟩) (nf_ hw497_0 GW505) _).trans (((cell_far (p := ⟨gb505, _, none⟩) (nf_ hw497_0 GW505) _).trans (((cell_far (p := ⟨gb505, _, none⟩) (nf_ hw497_0 GW505) _).trans (((cell_far (p := ⟨gb505, _, none⟩) (nf_ hw497_0 GW505) _).trans (((cell_far (p := ⟨gb505, _, none⟩) (nf_ hw497_0 GW505) _).trans (hHeld.2.2.1)))))))))), ((cell_far (p := ⟨gb505, _, none⟩) (nf_ hw497_1 GW505) _).trans (((cell_far (p := ⟨gb505, _, none⟩) (nf_ hw497_1 GW505) _).trans (((cell_far (p := ⟨gb505, _, none⟩) (nf_ hw497_1 GW505) _).trans (((cell_far (p := ⟨gb505, _, none⟩) (nf_ hw497_1 GW505) _).trans (((cell_far (p := ⟨gb505, _, none⟩) (nf_ hw497_1 GW505) _).trans (hHeld.2.2.2.1)))))))))), ((cell_far (p := ⟨gb505, _, none⟩) (nf_ hw497_2 GW505) _).trans (((cell_far (p := ⟨gb505, _, none⟩) (nf_ hw497_2 GW505) _).trans (((cell_far (p := ⟨gb505, _, none⟩) (nf_ hw497_2 GW505) _).trans (((cell_far (p := ⟨gb505, _, none⟩) (nf_ hw497_2 GW505) _).trans (((cell_far (p := ⟨gb505, _, none⟩) (nf_ hw497_2 GW505) _).trans (hHeld.2.2.2.2.1)))))))))), ((cell_far (p := ⟨gb505, _, none⟩) (nf_ hw497_3 GW505) _).trans (((cell_far (p := ⟨gb505, _, none⟩) (nf_ hw497_3 GW505) _).trans (((cell_far (p := ⟨gb505, _, none⟩) (nf_ hw497_3 GW505) _).trans (((cell_far (p := ⟨gb505, _, none⟩) (nf_ hw497_3 GW505) _).trans (((cell_far (p := ⟨gb505, _, none⟩) (nf_ hw497_3 GW505) _).trans (hHeld.2.2.2.2.2.1)))))))))), ((cell_far (p := ⟨gb505, _, none⟩) (nf_ hw497_4 GW505) _).trans (((cell_far (p := ⟨gb505, _, none⟩) (nf_ hw497_4 GW505) _).trans (((cell_far (p := ⟨gb505, _, none⟩) (nf_ hw497_4 GW505) _).trans (((cell_far (p := ⟨gb505, _, none⟩) (nf_ hw497_4 GW505) _).trans (((cell_far (p := ⟨gb505, _, none⟩) (nf_ hw497_4 GW505) _).trans (hHeld.2.2.2.2.2.2))))))))))⟩ (fun hHeld => ?_)
       clear hK K
       refine done_ (done_of HT_.out (by kernel_rfl)) ?_
       have hnb35 := NB505_487.out
       have hnc35 := NB487_505.out
       have hnb36 := NB505_488.out
       have hnc36 := NB488_505.out
       have hcz37_0 := cz_ BK505 0 (.slice none 0 0)
       have hcz37_1 := cz_ BK505 1 (.int .i64 0)
       have hcz37_2 := cz_ BK505 2 (.int .i64 0)
       have hcz37_3 := cz_ BK505 3 (.string (⟨#[]⟩ : ByteArray))
       have hcz37_4 := cz_ BK505 4 (.int .i64 0)
       have hfz37_0 := blk_frozen BK505.out 0
       have hfz37_1 := blk_frozen BK505.out 1
       have hfz37_2 := blk_frozen BK505.out 2
       have hfz37_3 := blk_frozen BK505.out 3
       have hfz37_4 := blk_frozen BK505.out 4
       have hnb38 := NB487_488.out
       have hnc38 := NB488_487.out
       have hcz39_0 := cz_ BK487 0 (.slice Ao24 x488000_1.length co24)
       have hcz39_1 := cz_ BK487 1 (.int .i64 x488001_1)
       have hfz39_0 := blk_frozen BK487.out 0
       have hfz39_1 := blk_frozen BK487.out 1
       try go_wp2
       go_roundg k1
       case measure => have := HK1.out; omega
       case rel => exact ⟨(wrap64 (x6_1 + 1)), (t498), (t501), (x489001_1), (x489002_1), (x489003_1), (x489004_1), (.slice Ao29 t498.length co29), rl_, H', ⟨by have := HK1.out; omega⟩, ⟨Kd.V_mono (Kd.R_V (by (with_reducible repeat (first | apply Kd.R_alloc | apply Kd.R_drewN | apply Kd.R_drew)); exact Kd.R_mono (Kd.R_far (p := ⟨gb487, 1, none⟩) (Kd.R_far (p := ⟨gb487, 0, none⟩) (Kd.R_far (p := ⟨gb505, 4, none⟩) (Kd.R_far (p := ⟨gb505, 3, none⟩) (Kd.R_far (p := ⟨gb505, 2, none⟩) (Kd.R_far (p := ⟨gb505, 1, none⟩) (Kd.R_far (p := ⟨gb505, 0, none⟩) (Kd.R_types (Kd.R_types (Kd.R_types (Kd.R_types HO500.out BK487.out (by decide)) BK488.out (by decide)) BK505.out (by decide)) BK487.out (by decide)) (fun _ hk => hk.1.2) (.slice Ao29 t498.length co29)) (fun _ hk => hk.1.2) (.int .i64 t501)) (fun _ hk => hk.1.2) (.int .i64 t502)) (fun _ hk => hk.1.2) (.string t503)) (fun _ hk => hk.1.2) (.int .i64 t504)) (fun _ hk => hk.2) (.slice Ao29 t498.length co29)) (fun _ hk => hk.2) (.int .i64 t501)) (fun _ hk => (And.intro (hk.1.1.1.1) (And.intro (hk.1.1.1.2) (hk.1.1.2)))))) (fun k_ hk => by first | exact ⟨(.inr (hk.1)), hk.2⟩ | exact (.inr (hk)))⟩, ⟨bq_ BK487⟩, ⟨by (with_reducible repeat (first | refine blk_drewN ?_ _ | refine blk_drew ?_ | refine blk_alloc ?_ _)); refine blk_far ?_ NB488_487.out _; (with_reducible repeat (first | refine blk_drewN ?_ _ | refine blk_drew ?_ | refine blk_alloc ?_ _)); refine blk_far ?_ NB488_487.out _; (with_reducible repeat (first | refine blk_drewN ?_ _ | refine blk_drew ?_ | refine blk_alloc ?_ _)); refine blk_far ?_ NB488_505.out _; (with_reducible repeat (first | refine blk_drewN ?_ _ | refine blk_drew ?_ | refine blk_alloc ?_ _)); refine blk_far ?_ NB488_505.out _; (with_reducible repeat (first | refine blk_drewN ?_ _ | refine blk_drew ?_ | refine blk_alloc ?_ _)); refine blk_far ?_ NB488_505.out _; (with_reducible repeat (first | refine blk_drewN ?_ _ | refine blk_drew ?_ | refine blk_alloc ?_ _)); refine blk_far ?_ NB488_505.out _; (with_reducible repeat (first | refine blk_drewN ?_ _ | refine blk_drew ?_ | refine blk_alloc ?_ _)); refine blk_far ?_ NB488_505.out _; (with_reducible repeat (first | refine blk_drewN ?_ _ | refine blk_drew ?_ | refine blk_alloc ?_ _)); exact BK488.out⟩, ⟨pb_ HB⟩⟩
      rw [if_neg c23] at H
      have c23b0 : (t504 == 0) = false := beq_eq_false_iff_ne.mpr c23
      have c23b1 : (t504 != 0) = true := bne_iff_ne.mpr c23
      simp only [Option.some.injEq, Prod.mk.injEq] at H
      obtain ⟨rfl, rfl, rfl, rfl, rfl⟩ := H
      obtain ⟨Ao40, co40, eo40⟩ := Kd.V_slice HO_488000.out
      subst eo40
      try go_wp2
      replace HO_488000 := Aside0.mk (Kd.V_drew HO_488000.out)
      replace BK487 := Aside0.mk (blk_drew BK487.out)
      replace BK488 := Aside0.mk (blk_drew BK488.out)
      replace HB := Aside0.mk (below_drew1 HB.out)
      have p497 : 0 ≤ (x6_1 : Int) := ct_
      have q497 : x6_1 < (l1.length : Int) := ct_
      obtain ⟨ad497, e497, hx497_0, hx497_1, hx497_2, hx497_3, hx497_4⟩ := at_T26 HR1.out x6_1 p497 q497
      have hw497_4 := hx497_4
      have hw497_3 := hx497_3
      have hw497_2 := hx497_2
      have hw497_1 := hx497_1
      have hw497_0 := hx497_0
      cases e497
      replace hx497_0 := pw_cell_below HB.out hx497_0
      replace hx497_1 := pw_cell_below HB.out hx497_1
      replace hx497_2 := pw_cell_below HB.out hx497_2
      replace hx497_3 := pw_cell_below HB.out hx497_3
      replace hx497_4 := pw_cell_below HB.out hx497_4
      replace p497 := eq_true p497
      replace q497 := eq_true q497
      refine start_ (n := 8) (S := fun w' => w'.cell? ⟨gb487, 0, none⟩ = some (.slice Ao40 x488000_1.length co40) ∧ w'.cell? ⟨gb487, 1, none⟩ = some (.int .i64 x488001_1) ∧ w'.cell? (ad497.add ((x6_1).toNat * 5)) = some (.int .i64 ((rd_T26 l1 x6_1).f0)) ∧ w'.cell? ⟨(ad497.add ((x6_1).toNat * 5)).block, (ad497.add ((x6_1).toNat * 5)).off + 1, none⟩ = some (.int .i64 ((rd_T26 l1 x6_1).f1)) ∧ w'.cell? ⟨(ad497.add ((x6_1).toNat * 5)).block, (ad497.add ((x6_1).toNat * 5)).off + 2, none⟩ = some (.int .i64 ((rd_T26 l1 x6_1).f2)) ∧ w'.cell? ⟨(ad497.add ((x6_1).toNat * 5)).block, (ad497.add ((x6_1).toNat * 5)).off + 3, none⟩ = some (.int .i64 ((rd_T26 l1 x6_1).f3)) ∧ w'.cell? ⟨(ad497.add ((x6_1).toNat * 5)).block, (ad497.add ((x6_1).toNat * 5)).off + 4, none⟩ = some (.string ((rd_T26 l1 x6_1).f4))) (ds := []) #[false, false, false, false, false, false, false, false] (by kernel_rfl) rfl rfl ⟨cy_ BK487 0, cy_ BK487 1, (pw_cell_below HB.out hw497_0), (pw_cell_below HB.out hw497_1), (pw_cell_below HB.out hw497_2), (pw_cell_below HB.out hw497_3), (pw_cell_below HB.out hw497_4)⟩ (fun hHeld => ?_); refine with_tabW midrangeref04_Applied.tab9 midrangeref04_Applied.bits9 (fun HT_ HW_ => ?_)
      generalize wr.drew = w41 at HO_488000 BK487 BK488 HB hx497_0 hx497_1 hx497_2 hx497_3 hx497_4 hHeld ⊢
      refine pu_ 1 25 HT_ ?_
      refine pu_ 2 26 HT_ ?_
      refine pu_ 3 27 HT_ ?_
      refine tk_ 0 24 HT_ HW_ hHeld rfl (Or.inl ⟨by rfl, by rintro w' ⟨s0, s1, s2, s3, s4, s5, s6⟩; go_simp; with_reducible rfl⟩) ?_
      refine tk_ 4 28 HT_ HW_ hHeld rfl (Or.inl ⟨by rfl, by rintro w' ⟨s0, s1, s2, s3, s4, s5, s6⟩; go_simp; with_reducible rfl⟩) ?_
      refine join_ (σ := Value × Nat) 1 #[true, true, true, true, true, true, true, false] (fun s_ => [(29, .agg #[s_.1, .int .i64 t501, .int .i64 t502, .string t503, .int .i64 t504]), (7, .pointer (some ⟨s_.2, 0, none⟩))]) (fun s_ w' => (w'.cell? ⟨gb487, 0, none⟩ = some (.slice Ao40 x488000_1.length co40) ∧ w'.cell? ⟨gb487, 1, none⟩ = some (.int .i64 x488001_1) ∧ w'.cell? (ad497.add ((x6_1).toNat * 5)) = some (.int .i64 ((rd_T26 l1 x6_1).f0)) ∧ w'.cell? ⟨(ad497.add ((x6_1).toNat * 5)).block, (ad497.add ((x6_1).toNat * 5)).off + 1, none⟩ = some (.int .i64 ((rd_T26 l1 x6_1).f1)) ∧ w'.cell? ⟨(ad497.add ((x6_1).toNat * 5)).block, (ad497.add ((x6_1).toNat * 5)).off + 2, none⟩ = some (.int .i64 ((rd_T26 l1 x6_1).f2)) ∧ w'.cell? ⟨(ad497.add ((x6_1).toNat * 5)).block, (ad497.add ((x6_1).toNat * 5)).off + 3, none⟩ = some (.int .i64 ((rd_T26 l1 x6_1).f3)) ∧ w'.cell? ⟨(ad497.add ((x6_1).toNat * 5)).block, (ad497.add ((x6_1).toNat * 5)).off + 4, none⟩ = some (.string ((rd_T26 l1 x6_1).f4))) ∧ (Kd.R k46 46 w' w.heap.size (fun k_ => (w.heap.size ≤ k_)) s_.1 t498) ∧ (Kd.V k46 46 w' w.heap.size (fun k_ => (P0_0_ k_ ∨ w.heap.size ≤ k_) ∧ some k_ ≠ (s_.1 : Value).ownBlock ∧ k_ ≠ gb487 ∧ k_ ≠ gb488 ∧ k_ ≠ s_.2) (.slice Ao40 x488000_1.length co40) x488000_1) ∧ (w'.heap[gb487]? = some (.cells #[.slice Ao40 x488000_1.length co40, .int .i64 x488001_1] 24 (0, 0))) ∧ (w'.heap[gb488]? = some (.cells #[.slice none 0 0, .int .i64 x489001_1, .int .i64 x489002_1, .string x489003_1, .int .i64 x489004_1] 51 (0, 0))) ∧ (w'.heap[s_.2]? = some (.cells #[.slice none 0 0, .int .i64 0, .int .i64 0, .string (⟨#[]⟩ : ByteArray), .int .i64 0] 51 (0, 0))) ∧ (w.heap.size ≤ s_.2) ∧ (w.heap.size ≤ s_.2) ∧ (gb487 ≠ s_.2) ∧ (s_.2 ≠ gb487) ∧ (gb488 ≠ s_.2) ∧ (s_.2 ≠ gb488) ∧ (Below w.heap.size w w')) ?_ ?_
      rotate_left
      ·
       intro hCont
       refine two_ (i := 5) (j := 6) (Ni := some 29) (Nj := some 7) #[true, true, true, true, true, true, false, false] #[true, true, true, true, true, false, true, false] rfl rfl rfl rfl (two_of HT_.out (by kernel_rfl)) (by decide) (by decide) (fun K hK => ?_) (fun K hK => ?_)
       ·
        refine goes_ Tryd.func39 (by kernel_rfl) rfl #[.agg #[.slice Ao40 x488000_1.length co40, .int .i64 x488001_1], .agg #[.int .i64 ((rd_T26 l1 x6_1).f0), .int .i64 ((rd_T26 l1 x6_1).f1), .int .i64 ((rd_T26 l1 x6_1).f2), .int .i64 ((rd_T26 l1 x6_1).f3), .string ((rd_T26 l1 x6_1).f4)]] (by rfl) rfl rfl (by (try simp only [List.map_toArray, List.map_cons, List.map_nil]); first | done | rfl | (simp only [List.length_drop, List.length_take]; rfl)) ?_
        with_reducible refine (midrangeref04_Done.calls k1 _ _ x488000_1 x488001_1 ((rd_T26 l1 x6_1).f0) ((rd_T26 l1 x6_1).f1) ((rd_T26 l1 x6_1).f2) ((rd_T26 l1 x6_1).f3) ((rd_T26 l1 x6_1).f4) t498 t501 t502 t503 t504 _ ?side1 ?side2 A22.out).mono ?_
        (case side1 => exact pc_ (Kd.V_reads' HO_488000.out).2.2)
        (case side2 => exact (Kd.V_reads' HO_488000.out).2.1)
        rintro e w42 ⟨v499, rfl, ho0, hb⟩
        refine ⟨_, rfl, ?_⟩
        replace HO_488000 := Aside0.mk (Kd.V_elder' (by (with_reducible repeat (first | apply Kd.V_alloc | apply Kd.V_drewN | apply Kd.V_drew)); exact HO_488000.out) (Kd.R_base ho0) hb)
        have HO500 := Aside0.mk (Kd.R_lower (Kd.R_newM (M := fun k_ => (w.heap.size ≤ k_)) ho0 (below_size (pb_ HB)) (fun k_ h_ => h_)) (below_size (pb_ HB)))
        replace BK487 := kb_ BK487 hb
        replace BK488 := kb_ BK488 hb
        replace HB := sb_ HB hb
        (try clear hb)
        (try clear hb2)
        (try clear hk)
        (try clear hi)
        (try clear ho0)
        refine hK.out _ _ ⟨cy_ BK487 0, cy_ BK487 1, (pw_cell_below HB.out hw497_0), (pw_cell_below HB.out hw497_1), (pw_cell_below HB.out hw497_2), (pw_cell_below HB.out hw497_3), (pw_cell_below HB.out hw497_4)⟩ (fun hHeld => ?_)
        clear hK K
        refine nn_ 29 ?_
        refine one_ (i := 6) (N := some 7) #[true, true, true, true, true, true, true, false] rfl rfl (one_of HT_.out (by kernel_rfl)) (by decide) (fun K hK => ?_)
        refine box_step ?hg (N := 7) ?hd (cs := #[.slice none 0 0, .int .i64 0, .int .i64 0, .string (⟨#[]⟩ : ByteArray), .int .i64 0]) (t := 51) ?hr ?_; (case hd => rfl); (case hg => rfl); (case hr => first | (go_simp; done) | (go_simp; rfl))
        intro gb505 hg w43 hbox hb
        replace HO_488000 := Aside0.mk (Kd.V_below (Kd.V_elderB (by (with_reducible repeat (first | apply Kd.V_alloc | apply Kd.V_drewN | apply Kd.V_drew)); exact HO_488000.out) gb505 (Nat.le_of_eq hg.symm)) hb)
        replace HO500 := Aside0.mk (Kd.R_below (rk_ HO500) hb)
        have BK505 := Aside0.mk (hbox)
        have GW505 := gw_ hg HB
        have GE505 := gw_ hg HB
        replace HB := sb_ HB hb
        have NB487_505 := nl_ hg BK487
        have NB505_487 := ng_ hg BK487
        replace BK487 := kb_ BK487 hb
        have NB488_505 := nl_ hg BK488
        have NB505_488 := ng_ hg BK488
        replace BK488 := kb_ BK488 hb
        clear hb hbox hg
        refine hK.out _ _ ⟨cy_ BK487 0, cy_ BK487 1, (pw_cell_below HB.out hw497_0), (pw_cell_below HB.out hw497_1), (pw_cell_below HB.out hw497_2), (pw_cell_below HB.out hw497_3), (pw_cell_below HB.out hw497_4)⟩ (fun hHeld => ?_)
        clear hK K
        refine nn_ 7 ?_
        exact norm_ (by simp only [putAll, Act.put, List.setIfInBounds_toArray, List.set_cons_zero, List.set_cons_succ]) (hCont (v499, gb505) _ ⟨hHeld, (by (with_reducible repeat (first | apply Kd.R_alloc | apply Kd.R_drewN | apply Kd.R_drew)); exact Kd.R_mono HO500.out (fun _ hk => hk.1)), (by (with_reducible repeat (first | apply Kd.V_alloc | apply Kd.V_drewN | apply Kd.V_drew)); exact Kd.V_mono HO_488000.out (fun _ hk => ⟨hk.1.1.1, ⟨hk.1.2, ⟨hk.1.1.2.1, ⟨hk.1.1.2.2, hk.2⟩⟩⟩⟩)), (pk_ BK487), (pk_ BK488), (pk_ BK505), GW505.out, GE505.out, NB487_505.out, NB505_487.out, NB488_505.out, NB505_488.out, (pb_ HB)⟩)
       skip
       refine box_step ?hg (N := 7) ?hd (cs := #[.slice none 0 0, .int .i64 0, .int .i64 0, .string (⟨#[]⟩ : ByteArray), .int .i64 0]) (t := 51) ?hr ?_; (case hd => rfl); (case hg => rfl); (case hr => first | (go_simp; done) | (go_simp; rfl))
       intro gb505 hg w42 hbox hb
       replace HO_488000 := Aside0.mk (Kd.V_below (Kd.V_elderB (by (with_reducible repeat (first | apply Kd.V_alloc | apply Kd.V_drewN | apply Kd.V_drew)); exact HO_488000.out) gb505 (Nat.le_of_eq hg.symm)) hb)
       have BK505 := Aside0.mk (hbox)
       have GW505 := gw_ hg HB
       have GE505 := gw_ hg HB
       replace HB := sb_ HB hb
       have NB487_505 := nl_ hg BK487
       have NB505_487 := ng_ hg BK487
       replace BK487 := kb_ BK487 hb
       have NB488_505 := nl_ hg BK488
       have NB505_488 := ng_ hg BK488
       replace BK488 := kb_ BK488 hb
       clear hb hbox hg
       refine hK.out _ _ ⟨cy_ BK487 0, cy_ BK487 1, (pw_cell_below HB.out hw497_0), (pw_cell_below HB.out hw497_1), (pw_cell_below HB.out hw497_2), (pw_cell_below HB.out hw497_3), (pw_cell_below HB.out hw497_4)⟩ (fun hHeld => ?_)
       clear hK K
       refine nn_ 7 ?_
       refine one_ (i := 5) (N := some 29) #[true, true, true, true, true, true, true, false] rfl rfl (one_of HT_.out (by kernel_rfl)) (by decide) (fun K hK => ?_)
       refine goes_ Tryd.func39 (by kernel_rfl) rfl #[.agg #[.slice Ao40 x488000_1.length co40, .int .i64 x488001_1], .agg #[.int .i64 ((rd_T26 l1 x6_1).f0), .int .i64 ((rd_T26 l1 x6_1).f1), .int .i64 ((rd_T26 l1 x6_1).f2), .int .i64 ((rd_T26 l1 x6_1).f3), .string ((rd_T26 l1 x6_1).f4)]] (by rfl) rfl rfl (by (try simp only [List.map_toArray, List.map_cons, List.map_nil]); first | done | rfl | (simp only [List.length_drop, List.length_take]; rfl)) ?_
       with_reducible refine (midrangeref04_Done.calls k1 _ _ x488000_1 x488001_1 ((rd_T26 l1 x6_1).f0) ((rd_T26 l1 x6_1).f1) ((rd_T26 l1 x6_1).f2) ((rd_T26 l1 x6_1).f3) ((rd_T26 l1 x6_1).f4) t498 t501 t502 t503 t504 _ ?side1 ?side2 A22.out).mono ?_
       (case side1 => exact pc_ (Kd.V_reads' HO_488000.out).2.2)
       (case side2 => exact (Kd.V_reads' HO_488000.out).2.1)
       rintro e w43 ⟨v499, rfl, ho0, hb⟩
       refine ⟨_, rfl, ?_⟩
       replace HO_488000 := Aside0.mk (Kd.V_elder' (by (with_reducible repeat (first | apply Kd.V_alloc | apply Kd.V_drewN | apply Kd.V_drew)); exact HO_488000.out) (Kd.R_base ho0) hb)
       have HO500 := Aside0.mk (Kd.R_lower (Kd.R_newM (M := fun k_ => (w.heap.size ≤ k_)) ho0 (below_size (pb_ HB)) (fun k_ h_ => h_)) (below_size (pb_ HB)))
       replace BK487 := kb_ BK487 hb
       replace BK488 := kb_ BK488 hb
       replace BK505 := kb_ BK505 hb
       replace HB := sb_ HB hb
       (try clear hb)
       (try clear hb2)
       (try clear hk)
       (try clear hi)
       (try clear ho0)
       refine hK.out _ _ ⟨cy_ BK487 0, cy_ BK487 1, (pw_cell_below HB.out hw497_0), (pw_cell_below HB.out hw497_1), (pw_cell_below HB.out hw497_2), (pw_cell_below HB.out hw497_3), (pw_cell_below HB.out hw497_4)⟩ (fun hHeld => ?_)
       clear hK K
       refine nn_ 29 ?_
       exact norm_ (by simp only [putAll, Act.put, List.setIfInBounds_toArray, List.set_cons_zero, List.set_cons_succ]) (hCont (v499, gb505) _ ⟨hHeld, (by (with_reducible repeat (first | apply Kd.R_alloc | apply Kd.R_drewN | apply Kd.R_drew)); exact Kd.R_mono HO500.out (fun _ hk => hk.1)), (by (with_reducible repeat (first | apply Kd.V_alloc | apply Kd.V_drewN | apply Kd.V_drew)); exact Kd.V_mono HO_488000.out (fun _ hk => ⟨hk.1.1.1, ⟨hk.2, ⟨hk.1.1.2.1, ⟨hk.1.1.2.2, hk.1.2⟩⟩⟩⟩)), (pk_ BK487), (pk_ BK488), (pk_ BK505), GW505.out, GE505.out, NB487_505.out, NB505_487.out, NB488_505.out, NB505_488.out, (pb_ HB)⟩)
      clear HO_488000 BK487 BK488 HB
      rintro ⟨v499, gb505⟩ w44 ⟨hHeld, HO500, HO_488000, BK487, BK488, BK505, GW505, GE505, NB487_505, NB505_487, NB488_505, NB505_488, HB⟩
      try dsimp only at hHeld HO500 HO_488000 BK487 BK488 BK505 GW505 GE505 NB487_505 NB505_487 NB488_505 NB505_488 HB
      replace HO500 := Aside0.mk HO500
      replace HO_488000 := Aside0.mk HO_488000
      replace BK487 := Aside0.mk BK487
      replace BK488 := Aside0.mk BK488
      replace BK505 := Aside0.mk BK505
      replace GW505 := Aside0.mk GW505
      replace GE505 := Aside0.mk GE505
      replace NB487_505 := Aside0.mk NB487_505
      replace NB505_487 := Aside0.mk NB505_487
      replace NB488_505 := Aside0.mk NB488_505
      replace NB505_488 := Aside0.mk NB505_488
      replace HB := Aside0.mk HB
      obtain ⟨Ao45, co45, eo45⟩ := Kd.R_slice HO500.out
      (first | subst eo45 | (injection eo45 with f1_ f2_ f3_; have f4_ := f1_.symm; have f5_ := f3_.symm; clear f1_ f2_ f3_; subst f4_; subst f5_))
      refine nm_ ?_
      refine one_ (i := 7) (N := none) #[true, true, true, true, true, true, true, true] rfl rfl (one_of HT_.out (by kernel_rfl)) (by decide) (fun K hK => ?_)
      have hs46 : w44.cell? ⟨gb505, 0, none⟩ = some (.slice none 0 0) := (blk_cell BK505.out 0).trans rfl
      have hfs46 := blk_frozen BK505.out 0
      have hns46_0 := NB487_505.out
      have hns46_1 := NB488_505.out
      have hms46_0 := NB505_487.out
      have hms46_1 := NB505_488.out
      have hs47 : w44.cell? ⟨gb505, 1, none⟩ = some (.int .i64 0) := (blk_cell BK505.out 1).trans rfl
      have hfs47 := blk_frozen BK505.out 1
      have hns47_0 := NB487_505.out
      have hns47_1 := NB488_505.out
      have hms47_0 := NB505_487.out
      have hms47_1 := NB505_488.out
      have hs48 : w44.cell? ⟨gb505, 2, none⟩ = some (.int .i64 0) := (blk_cell BK505.out 2).trans rfl
      have hfs48 := blk_frozen BK505.out 2
      have hns48_0 := NB487_505.out
      have hns48_1 := NB488_505.out
      have hms48_0 := NB505_487.out
      have hms48_1 := NB505_488.out
      have hs49 : w44.cell? ⟨gb505, 3, none⟩ = some (.string (⟨#[]⟩ : ByteArray)) := (blk_cell BK505.out 3).trans rfl
      have hfs49 := blk_frozen BK505.out 3
      have hns49_0 := NB487_505.out
      have hns49_1 := NB488_505.out
      have hms49_0 := NB505_487.out
      have hms49_1 := NB505_488.out
      have hs50 : w44.cell? ⟨gb505, 4, none⟩ = some (.int .i64 0) := (blk_cell BK505.out 4).trans rfl
      have hfs50 := blk_frozen BK505.out 4
      have hns50_0 := NB487_505.out
      have hns50_1 := NB488_505.out
      have hms50_0 := NB505_487.out
      have hms50_1 := NB505_488.out
      refine skip_ (w1 := ?_) (by rfl) rfl ?_ ?_
      rotate_left
      ·
       go_simp
       rfl
      refine hK.out _ _ ⟨((cell_far (p := ⟨gb505, _, none⟩) NB487_505.out _).trans (((cell_far (p := ⟨gb505, _, none⟩) NB487_505.out _).trans (((cell_far (p := ⟨gb505, _, none⟩) NB487_505.out _).trans (((cell_far (p := ⟨gb505, _, none⟩) NB487_505.out _).trans (((cell_far (p := ⟨gb505, _, none⟩) NB487_505.out _).trans (hHeld.1)))))))))), ((cell_far (p := ⟨gb505, _, none⟩) NB487_505.out _).trans (((cell_far (p := ⟨gb505, _, none⟩) NB487_505.out _).trans (((cell_far (p := ⟨gb505, _, none⟩) NB487_505.out _).trans (((cell_far (p := ⟨gb505, _, none⟩) NB487_505.out _).trans (((cell_far (p := ⟨gb505, _, none⟩) NB487_505.out _).trans (hHeld.2.1)))))))))), ((cell_far (p := ⟨gb505, _, none⟩) (nf_ hw497_0 GW505) _).trans (((cell_far (p := ⟨gb505, _, none⟩) (nf_ hw497_0 GW505) _).trans (((cell_far (p := ⟨gb505, _, none⟩) (nf_ hw497_0 GW505) _).trans (((cell_far (p := ⟨gb505, _, none⟩) (nf_ hw497_0 GW505) _).trans (((cell_far (p := ⟨gb505, _, none⟩) (nf_ hw497_0 GW505) _).trans (hHeld.2.2.1)))))))))), ((cell_far (p := ⟨gb505, _, none⟩) (nf_ hw497_1 GW505) _).trans (((cell_far (p := ⟨gb505, _, none⟩) (nf_ hw497_1 GW505) _).trans (((cell_far (p := ⟨gb505, _, none⟩) (nf_ hw497_1 GW505) _).trans (((cell_far (p := ⟨gb505, _, none⟩) (nf_ hw497_1 GW505) _).trans (((cell_far (p := ⟨gb505, _, none⟩) (nf_ hw497_1 GW505) _).trans (hHeld.2.2.2.1)))))))))), ((cell_far (p := ⟨gb505, _, none⟩) (nf_ hw497_2 GW505) _).trans (((cell_far (p := ⟨gb505, _, none⟩) (nf_ hw497_2 GW505) _).trans (((cell_far (p := ⟨gb505, _, none⟩) (nf_ hw497_2 GW505) _).trans (((cell_far (p := ⟨gb505, _, none⟩) (nf_ hw497_2 GW505) _).trans (((cell_far (p := ⟨gb505, _, none⟩) (nf_ hw497_2 GW505) _).trans (hHeld.2.2.2.2.1)))))))))), ((cell_far (p := ⟨gb505, _, none⟩) (nf_ hw497_3 GW505) _).trans (((cell_far (p := ⟨gb505, _, none⟩) (nf_ hw497_3 GW505) _).trans (((cell_far (p := ⟨gb505, _, none⟩) (nf_ hw497_3 GW505) _).trans (((cell_far (p := ⟨gb505, _, none⟩) (nf_ hw497_3 GW505) _).trans (((cell_far (p := ⟨gb505, _, none⟩) (nf_ hw497_3 GW505) _).trans (hHeld.2.2.2.2.2.1)))))))))), ((cell_far (p := ⟨gb505, _, none⟩) (nf_ hw497_4 GW505) _).trans (((cell_far (p := ⟨gb505, _, none⟩) (nf_ hw497_4 GW505) _).trans (((cell_far (p := ⟨gb505, _, none⟩) (nf_ hw497_4 GW505) _).trans (((cell_far (p := ⟨gb505, _, none⟩) (nf_ hw497_4 GW505) _).trans (((cell_far (p := ⟨gb505, _, none⟩) (nf_ hw497_4 GW505) _).trans (hHeld.2.2.2.2.2.2))))))))))⟩ (fun hHeld => ?_)
      clear hK K
      refine done_ (done_of HT_.out (by kernel_rfl)) ?_
      have hnb51 := NB505_487.out
      have hnc51 := NB487_505.out
      have hnb52 := NB505_488.out
      have hnc52 := NB488_505.out
      have hcz53_0 := cz_ BK505 0 (.slice none 0 0)
      have hcz53_1 := cz_ BK505 1 (.int .i64 0)
      have hcz53_2 := cz_ BK505 2 (.int .i64 0)
      have hcz53_3 := cz_ BK505 3 (.string (⟨#[]⟩ : ByteArray))
      have hcz53_4 := cz_ BK505 4 (.int .i64 0)
      have hfz53_0 := blk_frozen BK505.out 0
      have hfz53_1 := blk_frozen BK505.out 1
      have hfz53_2 := blk_frozen BK505.out 2
      have hfz53_3 := blk_frozen BK505.out 3
      have hfz53_4 := blk_frozen BK505.out 4
      have hnb54 := NB488_487.out
      have hnc54 := NB487_488.out
      have hcz55_0 := cz_ BK488 0 (.slice none 0 0)
      have hcz55_1 := cz_ BK488 1 (.int .i64 x489001_1)
      have hcz55_2 := cz_ BK488 2 (.int .i64 x489002_1)
      have hcz55_3 := cz_ BK488 3 (.string x489003_1)
      have hcz55_4 := cz_ BK488 4 (.int .i64 x489004_1)
      have hfz55_0 := blk_frozen BK488.out 0
      have hfz55_1 := blk_frozen BK488.out 1
      have hfz55_2 := blk_frozen BK488.out 2
      have hfz55_3 := blk_frozen BK488.out 3
      have hfz55_4 := blk_frozen BK488.out 4
      try go_wp2
      refine bodyPost_ret (results_cell_row rfl _ _ gb488 51 #[.slice none 0 0, .int .i64 0, .int .i64 x6_1, .string (⟨#[]⟩ : ByteArray), .int .i64 t504] (0, 0) _ rfl (bq_ BK488) Tryd.underlying51 rfl (by kernel_rfl)) rfl ?_
      exact ⟨_, er_, by first | exact Kd.R_nil _ _ _ _ _ | exact Kd.N_nil _ _ _ _ _ | exact Kd.V_nil _ _ _ _ _ | exact Kd.Q_nil _ _ _ _ _ | exact Kd.S_nil _ _ _ _ _, pb_ HB⟩
     rw [if_neg c21] at H
     exact absurd H (by simp)
    rw [if_neg c20] at H
    have c20b0 : decide (x6_1 < (l1.length : Int)) = false := decide_eq_false c20
    clear c20
    replace H := Option.bind_eq_some_iff.mp H
    obtain ⟨⟨t506, t509⟩, A560, H⟩ := H
    replace H : (some (t506, t509, (l1.length : Int), (⟨#[]⟩ : ByteArray), 0)) = some (r1, r2, r3, r4, r5) := H
    have A56 := Aside0.mk A560
    clear A560
    simp only [Option.some.injEq, Prod.mk.injEq] at H
    obtain ⟨rfl, rfl, rfl, rfl, rfl⟩ := H
    have hnb57 := NB487_488.out
    have hnc57 := NB488_487.out
    have hcz58_0 := cz_ BK487 0 (u488000)
    have hcz58_1 := cz_ BK487 1 (.int .i64 x488001_1)
    have hfz58_0 := blk_frozen BK487.out 0
    have hfz58_1 := blk_frozen BK487.out 1
    obtain ⟨Ao59, co59, eo59⟩ := Kd.V_slice HO_488000.out
    subst eo59
    go_wp2_with (first | ((with_reducible refine gate_callee (f := 8) rfl ?_); refine gl_ 40 Tryd.func8 #[.agg #[.slice Ao59 x488000_1.length co59, .int .i64 x488001_1]] ?_; (with_reducible refine (midrangeref04_Own.calls _ _ x488000_1 x488001_1 t506 t509 _ ?side1 ?side2 A56.out).mono ?_); (case side1 => exact pc_ (Kd.V_reads' HO_488000.out).2.2); (case side2 => exact (Kd.V_reads' HO_488000.out).2.1); rintro e w60 ⟨v507, rfl, ho0, hb⟩; refine ⟨_, rfl, ?_⟩; replace HO_488000 := Aside0.mk (Kd.V_elder' (by (with_reducible repeat (first | apply Kd.V_alloc | apply Kd.V_drewN | apply Kd.V_drew)); exact HO_488000.out) (Kd.R_base ho0) hb); have HO508 := Aside0.mk (Kd.R_lower (Kd.R_newM (M := fun k_ => (w.heap.size ≤ k_)) ho0 (below_size (pb_ HB)) (fun k_ h_ => h_)) (below_size (pb_ HB))); replace BK487 := kb_ BK487 hb; replace BK488 := kb_ BK488 hb; replace HB := sb_ HB hb; (try clear hb); (try clear hb2); (try clear hk); (try clear hi); (try clear ho0); obtain ⟨Ao61, co61, eo61⟩ := Kd.R_slice HO508.out; subst eo61; have hcz62_0 := cz_ BK488 0 (.slice none 0 0); have hcz62_1 := cz_ BK488 1 (.int .i64 x489001_1); have hcz62_2 := cz_ BK488 2 (.int .i64 x489002_1); have hcz62_3 := cz_ BK488 3 (.string x489003_1); have hcz62_4 := cz_ BK488 4 (.int .i64 x489004_1); have hfz62_0 := blk_frozen BK488.out 0; have hfz62_1 := blk_frozen BK488.out 1; have hfz62_2 := blk_frozen BK488.out 2; have hfz62_3 := blk_frozen BK488.out 3; have hfz62_4 := blk_frozen BK488.out 4))
    refine bodyPost_ret (results_cell_row rfl _ _ gb488 51 #[.slice Ao61 t506.length co61, .int .i64 t509, .int .i64 (l1.length : Int), .string (⟨#[]⟩ : ByteArray), .int .i64 0] (0, 0) _ rfl (bq_ BK488) Tryd.underlying51 rfl (by kernel_rfl)) rfl ?_
    exact ⟨_, er_, by (with_reducible repeat (first | apply Kd.R_alloc | apply Kd.R_drewN | apply Kd.R_drew)); exact Kd.R_mono (Kd.R_far (p := ⟨gb488, 4, none⟩) (Kd.R_far (p := ⟨gb488, 3, none⟩) (Kd.R_far (p := ⟨gb488, 2, none⟩) (Kd.R_far (p := ⟨gb488, 1, none⟩) (Kd.R_far (p := ⟨gb488, 0, none⟩) (Kd.R_types HO508.out BK488.out (by decide)) (fun _ hk => hk.2) (.slice Ao61 t506.length co61)) (fun _ hk => hk.2) (.int .i64 t509)) (fun _ hk => hk.2) (.int .i64 (l1.length : Int))) (fun _ hk => hk.2) (.string (⟨#[]⟩ : ByteArray))) (fun _ hk => hk.2) (.int .i64 0)) (fun _ hk => hk.1.1), pb_ HB⟩
 rw [if_neg c4] at H
 have c4b0 : (t489 == 0) = false := beq_eq_false_iff_ne.mpr c4
 have c4b1 : (t489 != 0) = true := bne_iff_ne.mpr c4
 simp only [Option.some.injEq, Prod.mk.injEq] at H
 obtain ⟨rfl, rfl, rfl, rfl, rfl⟩ := H
 go_enter Tryd.func18, Tryd.ntmps18
 go_wp2_with (first | ((with_reducible refine gate_dst (N := 2) rfl ?_); refine bx_ 2 #[.slice A0_0 l0_0.length c0_0, .int .i64 a0_1] 24 ?_; intro gb487 hg w63 hbox hb; replace HO0_0 := Aside0.mk (Kd.V_below (Kd.V_elderB (by (with_reducible repeat (first | apply Kd.V_alloc | apply Kd.V_drewN | apply Kd.V_drew)); exact HO0_0.out) gb487 (Nat.le_of_eq hg.symm)) hb); have BK487 := Aside0.mk (hbox); have GW487 := gw_ hg HB; have GE487 := gw_ hg HB; replace HB := sb_ HB hb; clear hb hbox hg) | ((with_reducible refine gate_dst (N := 4) rfl ?_); refine bx_ 4 #[.slice none 0 0, .int .i64 0, .int .i64 0, .string (⟨#[]⟩ : ByteArray), .int .i64 0] 51 ?_; intro gb488 hg w64 hbox hb; replace HO0_0 := Aside0.mk (Kd.V_below (Kd.V_elderB (by (with_reducible repeat (first | apply Kd.V_alloc | apply Kd.V_drewN | apply Kd.V_drew)); exact HO0_0.out) gb488 (Nat.le_of_eq hg.symm)) hb); have BK488 := Aside0.mk (hbox); have GW488 := gw_ hg HB; have GE488 := gw_ hg HB; replace HB := sb_ HB hb; have NB487_488 := nl_ hg BK487; have NB488_487 := ng_ hg BK487; replace BK487 := kb_ BK487 hb; clear hb hbox hg; have hnb65 := NB487_488.out; have hnc65 := NB488_487.out; have hcz66_0 := cz_ BK487 0 (.slice A0_0 l0_0.length c0_0); have hcz66_1 := cz_ BK487 1 (.int .i64 a0_1); have hfz66_0 := blk_frozen BK487.out 0; have hfz66_1 := blk_frozen BK487.out 1) | ((with_reducible refine gate_callee (f := 37) rfl ?_); refine gl_ 9 Tryd.func37 #[.agg #[.slice A0_0 l0_0.length c0_0, .int .i64 a0_1]] ?_; (with_reducible refine (midrangeref04_Err.calls k _ _ l0_0 a0_1 t489 _ ?side1 ?side2 A3.out).mono ?_); (case side1 => exact pc_ (Kd.V_reads' HO0_0.out).2.2); (case side2 => exact (Kd.V_reads' HO0_0.out).2.1); rintro e w67 ⟨rfl, hb⟩; refine ⟨_, rfl, ?_⟩; replace HO0_0 := Aside0.mk (Kd.V_below (by (with_reducible repeat (first | apply Kd.V_alloc | apply Kd.V_drewN | apply Kd.V_drew)); exact HO0_0.out) hb); replace BK487 := kb_ BK487 hb; replace BK488 := kb_ BK488 hb; replace HB := sb_ HB hb; (try clear hb); (try clear hb2); (try clear hk); (try clear hi); have hcz68_0 := cz_ BK488 0 (.slice none 0 0); have hcz68_1 := cz_ BK488 1 (.int .i64 0); have hcz68_2 := cz_ BK488 2 (.int .i64 0); have hcz68_3 := cz_ BK488 3 (.string (⟨#[]⟩ : ByteArray)); have hcz68_4 := cz_ BK488 4 (.int .i64 0); have hfz68_0 := blk_frozen BK488.out 0; have hfz68_1 := blk_frozen BK488.out 1; have hfz68_2 := blk_frozen BK488.out 2; have hfz68_3 := blk_frozen BK488.out 3; have hfz68_4 := blk_frozen BK488.out 4))
 refine bodyPost_ret (results_cell_row rfl _ _ gb488 51 #[.slice none 0 0, .int .i64 0, .int .i64 0, .string (⟨#[]⟩ : ByteArray), .int .i64 t489] (0, 0) _ rfl (bq_ BK488) Tryd.underlying51 rfl (by kernel_rfl)) rfl ?_
 exact ⟨_, er_, by first | exact Kd.R_nil _ _ _ _ _ | exact Kd.N_nil _ _ _ _ _ | exact Kd.V_nil _ _ _ _ _ | exact Kd.Q_nil _ _ _ _ _ | exact Kd.S_nil _ _ _ _ _, pb_ HB⟩
end Go.Proofs.YtoabahlaicgmjaaDoor.X
end
