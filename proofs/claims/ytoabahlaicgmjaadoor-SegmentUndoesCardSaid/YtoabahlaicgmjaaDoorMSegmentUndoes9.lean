-- Texts of this claim joined by merge.py, a program of its author; what this claim does not reach is left out.
import Derived.Test.YtoabahlaicgmjaaDoorMSegmentUndoes8
section
namespace Go.Proofs.YtoabahlaicgmjaaDoor.X
open Go.Proofs.YtoabahlaicgmjaaDoor.XW Go.Proofs.YtoabahlaicgmjaaDoor.XS
open Go.RowKit Go.Proofs.YtoabahlaicgmjaaDoorW.PrintWords Go.Proofs.YtoabahlaicgmjaaDoorW.PrintLast Go.Proofs.YtoabahlaicgmjaaDoorW.PrintMore
attribute [local go_sem] max2_int min2_int max_two min_two max_three min_three max_four min_four   -- for this text's walks alone
set_option linter.unusedVariables false
set_option linter.unusedSimpArgs false
def midrangeref04_Created.j0 : Nat → Int → Bool → List (S46) → Int → Option ((List (S46)) × Int × Int × ByteArray × Int)
  | 0, _, _, _, _ => none
  | k + 1, x1, x25, x323000, x323001 => if x25 = true then ((midrangeref04_failed.f 30).bind fun bt333 => (some (bt333.1, bt333.2.1, bt333.2.2.1, bt333.2.2.2.1, bt333.2.2.2.2))) else ((midrangeref04_Own.f x323000 x323001).bind fun bt340 => ((midrangeref04_Zeros.f k (wrap64 (x1 * 32))).bind fun t345 => (if bt340.1.length < 5864062014805 then (some ((bt340.1 ++ [(⟨x323001, t345⟩ : S46)]), wrap64 (x323001 + 1), x323001, (⟨#[]⟩ : ByteArray), 0)) else (none))))
def midrangeref04_Created.f (k : Nat) (l0_0 : List (S46)) (a0_1 : Int) (a1 : Int) : Option ((List (S46)) × Int × Int × ByteArray × Int) := (midrangeref04_Err.f k l0_0 a0_1).bind fun t324 => (if t324 = 0 then ((midrangebase_Within.f a1 1 8).bind fun t325 => (if t325 = true then (if (l0_0.length : Int) = 10 then (midrangeref04_Created.j0 k a1 true l0_0 a0_1) else (midrangeref04_Created.j0 k a1 (decide (a0_1 > 1000)) l0_0 a0_1)) else ((midrangeref04_failed.f 3).bind fun bt326 => (some (bt326.1, bt326.2.1, bt326.2.2.1, bt326.2.2.2.1, bt326.2.2.2.2))))) else (some (([] : List (S46)), 0, 0, (⟨#[]⟩ : ByteArray), t324)))
def midrangeref04_Created.T9 : Bool × List (List Nat × List Nat) := (true, [([], []), ([0], [0]), ([], []), ([2], [2]), ([], []), ([4], [4]), ([5], [5]), ([3, 6], [3, 6]), ([7], [7]), ([1, 8, 6], [1, 8]), ([0, 1, 2, 3, 4, 5, 6, 7, 8, 9], []), ([10, 9, 9, 0, 1, 2, 3, 4, 5, 6, 7, 8, 9], [9, 10])])
def midrangeref04_Created.B9 : List Nat := [0, 1, 0, 4, 0, 16, 48, 124, 252, 511, 1023, 2047]
theorem midrangeref04_Created.tab9 : rtab .any (opsOf Tryd.f52 9) = midrangeref04_Created.T9 := by kernel_rfl
theorem midrangeref04_Created.bits9 : waitsOk midrangeref04_Created.T9.2 midrangeref04_Created.B9 = true := by kernel_rfl
set_option maxHeartbeats 8000000 in
set_option maxRecDepth 100000 in
theorem midrangeref04_Created.calls (k : Nat) (A0_0 : Option Addr) (c0_0 : Nat) (l0_0 : List (S46)) (a0_1 : Int) (a1 : Int) (r1 : List (S46)) (r2 : Int) (r3 : Int) (r4 : ByteArray) (r5 : Int) (w : World) (hr0_0 : Kd.C k46 w A0_0 l0_0.length l0_0) (hc0_0 : l0_0.length ≤ c0_0) (h : midrangeref04_Created.f k l0_0 a0_1 a1 = some (r1, r2, r3, r4, r5)) :
  Calls Tryd.prog 52 #[.agg #[.slice A0_0 l0_0.length c0_0, .int .i64 a0_1], .int .i64 a1] w fun e w' => ∃ v0_ : Value, e = .returned (.agg #[v0_, .int .i64 r2, .int .i64 r3, .string r4, .int .i64 r5]) ∧ Kd.R k46 46 w' w.heap.size (fun _ => True) v0_ r1 ∧ Below w.heap.size w w' := by
 have hu24 := Tryd.underlying24
 have hu51 := Tryd.underlying51
 have hu46 := Tryd.underlying46
 have HR0_0 := Aside0.mk hr0_0
 have HC0_0 := Aside0.mk hc0_0
 clear hr0_0 hc0_0
 have HB := Aside0.mk (Below.refl w.heap.size w)
 have H : ((midrangeref04_Err.f k l0_0 a0_1).bind fun t324 => (if t324 = 0 then ((midrangebase_Within.f a1 1 8).bind fun t325 => (if t325 = true then (if (l0_0.length : Int) = 10 then (midrangeref04_Created.j0 k a1 true l0_0 a0_1) else (midrangeref04_Created.j0 k a1 (decide (a0_1 > 1000)) l0_0 a0_1)) else ((midrangeref04_failed.f 3).bind fun bt326 => (some (bt326.1, bt326.2.1, bt326.2.2.1, bt326.2.2.2.1, bt326.2.2.2.2))))) else (some (([] : List (S46)), 0, 0, (⟨#[]⟩ : ByteArray), t324)))) = some (r1, r2, r3, r4, r5) := h
 clear h
 replace H := Option.bind_eq_some_iff.mp H
 obtain ⟨t324, A30, H⟩ := H
 replace H : (if t324 = 0 then ((midrangebase_Within.f a1 1 8).bind fun t325 => (if t325 = true then (if (l0_0.length : Int) = 10 then (midrangeref04_Created.j0 k a1 true l0_0 a0_1) else (midrangeref04_Created.j0 k a1 (decide (a0_1 > 1000)) l0_0 a0_1)) else ((midrangeref04_failed.f 3).bind fun bt326 => (some (bt326.1, bt326.2.1, bt326.2.2.1, bt326.2.2.2.1, bt326.2.2.2.2))))) else (some (([] : List (S46)), 0, 0, (⟨#[]⟩ : ByteArray), t324))) = some (r1, r2, r3, r4, r5) := H
 have A3 := Aside0.mk A30
 clear A30
 by_cases c4 : t324 = 0
 ·
  rw [if_pos c4] at H
  have c4b0 : (t324 == 0) = true := beq_iff_eq.mpr c4
  have c4b1 : (t324 != 0) = false := bne_eq_false_iff_eq.mpr c4
  clear c4
  replace H := Option.bind_eq_some_iff.mp H
  obtain ⟨t325, A50, H⟩ := H
  replace H : (if t325 = true then (if (l0_0.length : Int) = 10 then (midrangeref04_Created.j0 k a1 true l0_0 a0_1) else (midrangeref04_Created.j0 k a1 (decide (a0_1 > 1000)) l0_0 a0_1)) else ((midrangeref04_failed.f 3).bind fun bt326 => (some (bt326.1, bt326.2.1, bt326.2.2.1, bt326.2.2.2.1, bt326.2.2.2.2)))) = some (r1, r2, r3, r4, r5) := H
  have A5 := Aside0.mk A50
  clear A50
  by_cases c6 : t325 = true
  ·
   subst c6
   have H1 : (if (l0_0.length : Int) = 10 then (midrangeref04_Created.j0 k a1 true l0_0 a0_1) else (midrangeref04_Created.j0 k a1 (decide (a0_1 > 1000)) l0_0 a0_1)) = some (r1, r2, r3, r4, r5) := by rw [if_pos rfl] at H; exact H
   clear H
   have H := H1
   clear H1
   have HC7 := Aside0.mk H
   clear H
   go_enter Tryd.func52, Tryd.ntmps52
   go_upto_region 6 with (first | ((with_reducible refine gate_dst (N := 2) rfl ?_); refine bx_ 2 #[.slice A0_0 l0_0.length c0_0, .int .i64 a0_1] 24 ?_; intro gb322 hg w8 hbox hb; have BK322 := Aside0.mk (hbox); have GW322 := gw_ hg HB; have GE322 := gw_ hg HB; replace HB := sb_ HB hb; clear hb hbox hg) | ((with_reducible refine gate_dst (N := 4) rfl ?_); refine bx_ 4 #[.slice none 0 0, .int .i64 0, .int .i64 0, .string (⟨#[]⟩ : ByteArray), .int .i64 0] 51 ?_; intro gb323 hg w9 hbox hb; have BK323 := Aside0.mk (hbox); have GW323 := gw_ hg HB; have GE323 := gw_ hg HB; replace HB := sb_ HB hb; have NB322_323 := nl_ hg BK322; have NB323_322 := ng_ hg BK322; replace BK322 := kb_ BK322 hb; clear hb hbox hg; have hnb10 := NB322_323.out; have hnc10 := NB323_322.out; have hcz11_0 := cz_ BK322 0 (.slice A0_0 l0_0.length c0_0); have hcz11_1 := cz_ BK322 1 (.int .i64 a0_1); have hfz11_0 := blk_frozen BK322.out 0; have hfz11_1 := blk_frozen BK322.out 1) | ((with_reducible refine gate_callee (f := 37) rfl ?_); refine gl_ 8 Tryd.func37 #[.agg #[.slice A0_0 l0_0.length c0_0, .int .i64 a0_1]] ?_; (with_reducible refine (midrangeref04_Err.calls k _ _ l0_0 a0_1 t324 _ ?side1 ?side2 A3.out).mono ?_); (case side1 => exact pc_ (Kd.C_below HR0_0.out HB.out)); (case side2 => exact HC0_0.out); rintro e w12 ⟨rfl, hb⟩; refine ⟨_, rfl, ?_⟩; replace BK322 := kb_ BK322 hb; replace BK323 := kb_ BK323 hb; replace HB := sb_ HB hb; (try clear hb); (try clear hb2); (try clear hk); (try clear hi)) | ((with_reducible refine gate_callee (f := 68) rfl ?_); refine gl_ 14 Tryd.func68 #[.int .i64 a1, .int .i64 1, .int .i64 8] ?_; (with_reducible refine (midrangebase_Within.calls a1 1 8 true _ A5.out).mono ?_); rintro e w' ⟨rfl, ⟨nd, rfl⟩⟩; refine ⟨_, rfl, ?_⟩))
   (try simp only [Act.put, List.setIfInBounds_toArray, List.set_cons_zero, List.set_cons_succ])
   go_cut [25] (fun v25 wc => ∃ (kq : Nat) (x25_6 : Bool), v25 = .bool x25_6 ∧ Aside0 (midrangeref04_Created.j0 kq a1 x25_6 l0_0 a0_1 = some (r1, r2, r3, r4, r5)) ∧ Aside0 (kq ≤ k) ∧ Aside0 (wc.heap[gb322]? = some (.cells #[(.slice A0_0 l0_0.length c0_0), .int .i64 a0_1] 24 (0, 0))) ∧ Aside0 (wc.heap[gb323]? = some (.cells #[(.slice none 0 0), .int .i64 0, .int .i64 0, .string (⟨#[]⟩ : ByteArray), .int .i64 0] 51 (0, 0))) ∧ Aside0 (Below w.heap.size w wc))
   case first =>
    have H := HC7.out
    clear HC7
    by_cases c13 : (l0_0.length : Int) = 10
    ·
     rw [if_pos c13] at H
     have c13b0 : ((l0_0.length : Int) == 10) = true := beq_iff_eq.mpr c13
     have c13b1 : ((l0_0.length : Int) != 10) = false := bne_eq_false_iff_eq.mpr c13
     clear c13
     (first | rw [c13b0] | (simp only [i64_w, i32_w]; rw [c13b0]) | skip)
     have H' := Aside0.mk H
     clear H
     have hnb14 := NB322_323.out
     have hnc14 := NB323_322.out
     have hcz15_0 := cz_ BK322 0 (.slice A0_0 l0_0.length c0_0)
     have hcz15_1 := cz_ BK322 1 (.int .i64 a0_1)
     have hfz15_0 := blk_frozen BK322.out 0
     have hfz15_1 := blk_frozen BK322.out 1
     go_wp2
     go_meet
     case rel => exact ⟨_, (true), rl_, H', ⟨by first | omega | exact Nat.le_refl _⟩, ⟨pk_ BK322⟩, ⟨pk_ BK323⟩, ⟨pb_ HB⟩⟩
    rw [if_neg c13] at H
    have c13b0 : ((l0_0.length : Int) == 10) = false := beq_eq_false_iff_ne.mpr c13
    have c13b1 : ((l0_0.length : Int) != 10) = true := bne_iff_ne.mpr c13
    (first | rw [c13b0] | (simp only [i64_w, i32_w]; rw [c13b0]) | skip)
    have H' := Aside0.mk H
    clear H
    have hnb16 := NB322_323.out
    have hnc16 := NB323_322.out
    have hcz17_0 := cz_ BK322 0 (.slice A0_0 l0_0.length c0_0)
    have hcz17_1 := cz_ BK322 1 (.int .i64 a0_1)
    have hfz17_0 := blk_frozen BK322.out 0
    have hfz17_1 := blk_frozen BK322.out 1
    go_wp2
    go_meet
    case rel => exact ⟨_, (decide (a0_1 > 1000)), rl_, H', ⟨by first | omega | exact Nat.le_refl _⟩, ⟨pk_ BK322⟩, ⟨pk_ BK323⟩, ⟨pb_ HB⟩⟩
   case rest =>
    clear HC7
    try clear c1
    try clear p2
    try clear c3
    try clear c4
    try clear c4b0
    try clear c4b1
    try clear c5
    try clear c6
    try clear c10
    try clear c13
    try clear c13b0
    try clear c13b1
    try clear c14
    try clear c16
    try clear hcz11_0
    try clear hcz11_1
    try clear hcz15_0
    try clear hcz15_1
    try clear hcz17_0
    try clear hcz17_1
    try clear hfz11_0
    try clear hfz11_1
    try clear hfz15_0
    try clear hfz15_1
    try clear hfz17_0
    try clear hfz17_1
    obtain ⟨kq, x25_6, rfl, HA, HJ6, BK322, BK323, HB⟩ := hcut
    cases kq with
    | zero => exact absurd HA.out (by simp [midrangeref04_Created.j0])
    | succ kj6 =>
     have H := HA.out
     clear HA
     simp only [midrangeref04_Created.j0] at H
     by_cases c18 : x25_6 = true
     ·
      subst c18
      have H1 : ((midrangeref04_failed.f 30).bind fun bt333 => (some (bt333.1, bt333.2.1, bt333.2.2.1, bt333.2.2.2.1, bt333.2.2.2.2))) = some (r1, r2, r3, r4, r5) := by rw [if_pos rfl] at H; exact H
      clear H
      have H := H1
      clear H1
      replace H := Option.bind_eq_some_iff.mp H
      obtain ⟨⟨t333, t336, t337, t338, t339⟩, A190, H⟩ := H
      replace H : (some (t333, t336, t337, t338, t339)) = some (r1, r2, r3, r4, r5) := H
      have A19 := Aside0.mk A190
      clear A190
      simp only [Option.some.injEq, Prod.mk.injEq] at H
      obtain ⟨rfl, rfl, rfl, rfl, rfl⟩ := H
      go_wp2_with (first | ((with_reducible refine gate_callee (f := 38) rfl ?_); refine gl_ 26 Tryd.func38 #[.int .i64 30] ?_; (with_reducible refine (midrangeref04_failed.calls 30 t333 t336 t337 t338 t339 _ A19.out).mono ?_); rintro e w20 ⟨v334, rfl, ho0, hb⟩; refine ⟨_, rfl, ?_⟩; have HO335 := Aside0.mk (Kd.R_lower ho0 (below_size (pb_ HB))); replace BK322 := kb_ BK322 hb; replace BK323 := kb_ BK323 hb; replace HB := sb_ HB hb; (try clear hb); (try clear hb2); (try clear hk); (try clear hi); (try clear ho0); obtain ⟨Ao21, co21, eo21⟩ := Kd.R_slice HO335.out; subst eo21; have hnb22 := NB323_322.out; have hnc22 := NB322_323.out; have hcz23_0 := cz_ BK323 0 (.slice none 0 0); have hcz23_1 := cz_ BK323 1 (.int .i64 0); have hcz23_2 := cz_ BK323 2 (.int .i64 0); have hcz23_3 := cz_ BK323 3 (.string (⟨#[]⟩ : ByteArray)); have hcz23_4 := cz_ BK323 4 (.int .i64 0); have hfz23_0 := blk_frozen BK323.out 0; have hfz23_1 := blk_frozen BK323.out 1; have hfz23_2 := blk_frozen BK323.out 2; have hfz23_3 := blk_frozen BK323.out 3; have hfz23_4 := blk_frozen BK323.out 4))
      refine bodyPost_ret (results_cell_row rfl _ _ gb323 51 #[.slice Ao21 t333.length co21, .int .i64 t336, .int .i64 t337, .string t338, .int .i64 t339] (0, 0) _ rfl (bq_ BK323) Tryd.underlying51 rfl (by kernel_rfl)) rfl ?_
      exact ⟨_, er_, by (with_reducible repeat (first | apply Kd.R_alloc | apply Kd.R_drewN | apply Kd.R_drew)); exact Kd.R_mono (Kd.R_far (p := ⟨gb323, 4, none⟩) (Kd.R_far (p := ⟨gb323, 3, none⟩) (Kd.R_far (p := ⟨gb323, 2, none⟩) (Kd.R_far (p := ⟨gb323, 1, none⟩) (Kd.R_far (p := ⟨gb323, 0, none⟩) (Kd.R_types HO335.out BK323.out (by decide)) (fun _ hk => hk.2) (.slice Ao21 t333.length co21)) (fun _ hk => hk.2) (.int .i64 t336)) (fun _ hk => hk.2) (.int .i64 t337)) (fun _ hk => hk.2) (.string t338)) (fun _ hk => hk.2) (.int .i64 t339)) (fun _ hk => trivial), pb_ HB⟩
     replace c18 := Bool.eq_false_iff.mpr c18
     subst c18
     have H1 : ((midrangeref04_Own.f l0_0 a0_1).bind fun bt340 => ((midrangeref04_Zeros.f kj6 (wrap64 (a1 * 32))).bind fun t345 => (if bt340.1.length < 5864062014805 then (some ((bt340.1 ++ [(⟨a0_1, t345⟩ : S46)]), wrap64 (a0_1 + 1), a0_1, (⟨#[]⟩ : ByteArray), 0)) else (none)))) = some (r1, r2, r3, r4, r5) := by rw [if_neg (show ¬ (false = true) by decide)] at H; exact H
     clear H
     have H := H1
     clear H1
     replace H := Option.bind_eq_some_iff.mp H
     obtain ⟨⟨t340, t343⟩, A240, H⟩ := H
     replace H : ((midrangeref04_Zeros.f kj6 (wrap64 (a1 * 32))).bind fun t345 => (if t340.length < 5864062014805 then (some ((t340 ++ [(⟨a0_1, t345⟩ : S46)]), wrap64 (a0_1 + 1), a0_1, (⟨#[]⟩ : ByteArray), 0)) else (none))) = some (r1, r2, r3, r4, r5) := H
     have A24 := Aside0.mk A240
     clear A240
     replace H := Option.bind_eq_some_iff.mp H
     obtain ⟨t345, A250, H⟩ := H
     replace H : (if t340.length < 5864062014805 then (some ((t340 ++ [(⟨a0_1, t345⟩ : S46)]), wrap64 (a0_1 + 1), a0_1, (⟨#[]⟩ : ByteArray), 0)) else (none)) = some (r1, r2, r3, r4, r5) := H
     have A25 := Aside0.mk A250
     clear A250
     by_cases c26 : t340.length < 5864062014805
     ·
      rw [if_pos c26] at H
      have LMc26 := Aside0.mk c26
      clear c26
      obtain ⟨y346, hy346⟩ : ∃ y_ : List (S46), y_ = (t340 ++ [(⟨a0_1, t345⟩ : S46)]) := ⟨_, rfl⟩
      replace H : (some (y346, wrap64 (a0_1 + 1), a0_1, (⟨#[]⟩ : ByteArray), 0)) = some (r1, r2, r3, r4, r5) := by first | (rw [hy346]; with_reducible exact H) | (have H2_ := (Option.bind_some _ _).symm.trans H; rw [hy346]; with_reducible exact H2_) | (have H2_ := (Option.bind_some _ _).symm.trans H; with_reducible exact H2_) | with_reducible exact H | (rw [hy346]; exact H) | exact H
      have Ny346 := Aside0.mk hy346
      clear hy346
      simp only [Option.some.injEq, Prod.mk.injEq] at H
      obtain ⟨rfl, rfl, rfl, rfl, rfl⟩ := H
      have hnb27 := NB322_323.out
      have hnc27 := NB323_322.out
      have hcz28_0 := cz_ BK322 0 (.slice A0_0 l0_0.length c0_0)
      have hcz28_1 := cz_ BK322 1 (.int .i64 a0_1)
      have hfz28_0 := blk_frozen BK322.out 0
      have hfz28_1 := blk_frozen BK322.out 1
      try go_wp2_with (first | ((with_reducible refine gate_callee (f := 8) rfl ?_); refine gl_ 28 Tryd.func8 #[.agg #[.slice A0_0 l0_0.length c0_0, .int .i64 a0_1]] ?_; (with_reducible refine (midrangeref04_Own.calls _ _ l0_0 a0_1 t340 t343 _ ?side1 ?side2 A24.out).mono ?_); (case side1 => exact pc_ (Kd.C_below HR0_0.out HB.out)); (case side2 => exact HC0_0.out); rintro e w29 ⟨v341, rfl, ho0, hb⟩; refine ⟨_, rfl, ?_⟩; have HO342 := Aside0.mk (Kd.R_lower ho0 (below_size (pb_ HB))); replace BK322 := kb_ BK322 hb; replace BK323 := kb_ BK323 hb; replace HB := sb_ HB hb; (try clear hb); (try clear hb2); (try clear hk); (try clear hi); (try clear ho0)) | ((with_reducible refine gate_dst (N := 6) rfl ?_); refine bx_ 6 #[.slice none 0 0, .int .i64 0] 24 ?_; intro gb344 hg w30 hbox hb; replace HO342 := Aside0.mk (Kd.R_below (rk_ HO342) hb); have BK344 := Aside0.mk (hbox); have GW344 := gw_ hg HB; have GE344 := gw_ hg HB; replace HB := sb_ HB hb; have NB322_344 := nl_ hg BK322; have NB344_322 := ng_ hg BK322; replace BK322 := kb_ BK322 hb; have NB323_344 := nl_ hg BK323; have NB344_323 := ng_ hg BK323; replace BK323 := kb_ BK323 hb; clear hb hbox hg; obtain ⟨Ao31, co31, eo31⟩ := Kd.R_slice HO342.out; subst eo31; have hnb32 := NB344_322.out; have hnc32 := NB322_344.out; have hnb33 := NB344_323.out; have hnc33 := NB323_344.out; have hcz34_0 := cz_ BK344 0 (.slice none 0 0); have hcz34_1 := cz_ BK344 1 (.int .i64 0); have hfz34_0 := blk_frozen BK344.out 0; have hfz34_1 := blk_frozen BK344.out 1))
      have n0_ : Aside0 (Kd.R k46 46 ((w30.setCell ⟨gb344, 0, none⟩ (.slice Ao31 t340.length co31)).setCell ⟨gb344, 1, none⟩ (.int .i64 t343)) w.heap.size (fun _ => True) (.slice Ao31 t340.length co31) t340) := ⟨by (with_reducible repeat (first | apply Kd.R_alloc | apply Kd.R_drewN | apply Kd.R_drew)); exact Kd.R_mono (Kd.R_far (p := ⟨gb344, 1, none⟩) (Kd.R_far (p := ⟨gb344, 0, none⟩) (Kd.R_types HO342.out BK344.out (by decide)) (fun _ hk => hk.2) (.slice Ao31 t340.length co31)) (fun _ hk => hk.2) (.int .i64 t343)) (fun _ hk => trivial)⟩
      have n1_ : Aside0 (((w30.setCell ⟨gb344, 0, none⟩ (.slice Ao31 t340.length co31)).setCell ⟨gb344, 1, none⟩ (.int .i64 t343)).heap[gb322]? = some (.cells #[.slice A0_0 l0_0.length c0_0, .int .i64 a0_1] 24 (0, 0))) := ⟨by (with_reducible repeat (first | refine blk_drewN ?_ _ | refine blk_drew ?_ | refine blk_alloc ?_ _)); refine blk_far ?_ NB322_344.out _; (with_reducible repeat (first | refine blk_drewN ?_ _ | refine blk_drew ?_ | refine blk_alloc ?_ _)); refine blk_far ?_ NB322_344.out _; (with_reducible repeat (first | refine blk_drewN ?_ _ | refine blk_drew ?_ | refine blk_alloc ?_ _)); exact BK322.out⟩
      have n2_ : Aside0 (((w30.setCell ⟨gb344, 0, none⟩ (.slice Ao31 t340.length co31)).setCell ⟨gb344, 1, none⟩ (.int .i64 t343)).heap[gb323]? = some (.cells #[.slice none 0 0, .int .i64 0, .int .i64 0, .string (⟨#[]⟩ : ByteArray), .int .i64 0] 51 (0, 0))) := ⟨by (with_reducible repeat (first | refine blk_drewN ?_ _ | refine blk_drew ?_ | refine blk_alloc ?_ _)); refine blk_far ?_ NB323_344.out _; (with_reducible repeat (first | refine blk_drewN ?_ _ | refine blk_drew ?_ | refine blk_alloc ?_ _)); refine blk_far ?_ NB323_344.out _; (with_reducible repeat (first | refine blk_drewN ?_ _ | refine blk_drew ?_ | refine blk_alloc ?_ _)); exact BK323.out⟩
      have n3_ : Aside0 (((w30.setCell ⟨gb344, 0, none⟩ (.slice Ao31 t340.length co31)).setCell ⟨gb344, 1, none⟩ (.int .i64 t343)).heap[gb344]? = some (.cells #[.slice Ao31 t340.length co31, .int .i64 t343] 24 (0, 0))) := ⟨bq_ BK344⟩
      have n4_ : Aside0 (Below w.heap.size w ((w30.setCell ⟨gb344, 0, none⟩ (.slice Ao31 t340.length co31)).setCell ⟨gb344, 1, none⟩ (.int .i64 t343))) := ⟨pb_ HB⟩
      (try clear HO342)
      (try clear BK322)
      (try clear BK323)
      (try clear BK344)
      (try clear HB)
      generalize ((w30.setCell ⟨gb344, 0, none⟩ (.slice Ao31 t340.length co31)).setCell ⟨gb344, 1, none⟩ (.int .i64 t343)) = w35 at n0_ n1_ n2_ n3_ n4_ ⊢
      have HO342 := n0_
      have BK322 := n1_
      have BK323 := n2_
      have BK344 := n3_
      have HB := n4_
      clear n0_ n1_ n2_ n3_ n4_
      replace HO342 := rd_ HO342
      replace BK322 := Aside0.mk (blk_drew BK322.out)
      replace BK323 := Aside0.mk (blk_drew BK323.out)
      replace BK344 := Aside0.mk (blk_drew BK344.out)
      replace HB := Aside0.mk (below_drew1 HB.out)
      refine start_ (n := 12) (S := fun w' => w'.cell? ⟨gb344, 0, none⟩ = some (.slice Ao31 t340.length co31) ∧ w'.cell? ⟨gb344, 1, none⟩ = some (.int .i64 t343) ∧ w'.cell? ⟨gb322, 0, none⟩ = some (.slice A0_0 l0_0.length c0_0) ∧ w'.cell? ⟨gb322, 1, none⟩ = some (.int .i64 a0_1)) (ds := [11]) #[false, false, false, false, false, false, false, false, false, false, false, false] (by kernel_rfl) rfl rfl ⟨cy_ BK344 0, cy_ BK344 1, cy_ BK322 0, cy_ BK322 1⟩ (fun hHeld => ?_); refine with_tabW midrangeref04_Created.tab9 midrangeref04_Created.bits9 (fun HT_ HW_ => ?_)
      generalize w35.drew = w36 at HO342 BK322 BK323 BK344 HB hHeld ⊢
      refine pu_ 0 29 HT_ ?_
      refine pu_ 2 31 HT_ ?_
      refine pu_ 4 33 HT_ ?_
      refine pu_ 5 34 HT_ ?_
      refine tk_ 1 30 HT_ HW_ hHeld rfl (Or.inl ⟨by rfl, by rintro w' ⟨s0, s1, s2, s3⟩; go_simp; with_reducible rfl⟩) ?_
      refine tk_ 3 32 HT_ HW_ hHeld rfl (Or.inl ⟨by rfl, by rintro w' ⟨s0, s1, s2, s3⟩; go_simp; with_reducible rfl⟩) ?_
      refine one_ (i := 6) (N := some 35) #[true, true, true, true, true, true, true, false, false, false, false, false] rfl rfl (one_of HT_.out (by kernel_rfl)) (by decide) (fun K hK => ?_)
      refine goes_ Tryd.func21 (by kernel_rfl) rfl #[.int .i64 (wrap64 (a1 * 32))] (by rfl) rfl rfl (by (try simp only [List.map_toArray, List.map_cons, List.map_nil]); first | done | rfl | (simp only [List.length_drop, List.length_take]; rfl)) ?_
      with_reducible refine (midrangeref04_Zeros.calls kj6 (wrap64 (a1 * 32)) t345 _ A25.out).mono ?_
      rintro e w37 ⟨rfl, hb⟩
      refine ⟨_, rfl, ?_⟩
      replace HO342 := Aside0.mk (Kd.R_below (rk_ HO342) hb)
      replace BK322 := kb_ BK322 hb
      replace BK323 := kb_ BK323 hb
      replace BK344 := kb_ BK344 hb
      replace HB := sb_ HB hb
      (try clear hb)
      (try clear hb2)
      (try clear hk)
      (try clear hi)
      refine hK.out _ _ ⟨cy_ BK344 0, cy_ BK344 1, cy_ BK322 0, cy_ BK322 1⟩ (fun hHeld => ?_)
      clear hK K
      refine nn_ 35 ?_
      refine pu_ 7 36 HT_ ?_
      refine one_ (i := 8) (N := some 37) #[true, true, true, true, true, true, true, true, true, false, false, false] rfl rfl (one_of HT_.out (by kernel_rfl)) (by decide) (fun K hK => ?_)
      refine value_ (w1 := ?_) (v := ?_) (by rfl) rfl ?_ ?_
      rotate_left 2
      ·
       go_simp
       constructor
       · rfl
       rfl
      refine hK.out _ _ ⟨(blk_cell (blk_alloc BK344.out _) 0).trans rfl, (blk_cell (blk_alloc BK344.out _) 1).trans rfl, (blk_cell (blk_alloc BK322.out _) 0).trans rfl, (blk_cell (blk_alloc BK322.out _) 1).trans rfl⟩ (fun hHeld => ?_)
      clear hK K
      refine nn_ 37 ?_
      refine one_ (i := 9) (N := some 38) #[true, true, true, true, true, true, true, true, true, true, false, false] rfl rfl (one_of HT_.out (by kernel_rfl)) (by decide) (fun K hK => ?_)
      refine Kd.R_append_step k46 (w0 := w) w.heap.size (by rfl) (.tmp 30) (.tmp 37) 22 46 (.agg #[(.int .i64 0), (.string ⟨#[]⟩)]) 24 rfl Tryd.underlying22 info46 rfl (by decide) (by omega) (.slice Ao31 t340.length co31) t340 (⟨a0_1, t345⟩ : S46) [.int .i64 a0_1, .string t345] (fun _ => True) (fun _ => False) rfl rfl ?aP (fun _ hk => hk.elim) ?aF ?aO ?aB ?aS ?aL ?_
      (case aP => exact k46_mkM _ _ _ (⟨a0_1, t345⟩ : S46))
      (case aB => exact (pb_ HB))
      (case aF => exact (fun _ _ => trivial))
      (case aO => exact (rk_ HO342))
      (case aS => exact (below_size (pb_ HB)))
      (case aL => have := LMc26.out; omega)
      intro v347 w38 ho hb hg hat
      rw [← Ny346.out] at ho
      replace BK322 := Aside0.mk (blk_grown (g := gb322) (o := .cells #[.slice A0_0 l0_0.length c0_0, .int .i64 a0_1] 24 (0, 0)) (pk_ BK322) hg (Kd.R_ne HO342.out BK322.out (by decide)))
      replace BK323 := Aside0.mk (blk_grown (g := gb323) (o := .cells #[.slice none 0 0, .int .i64 0, .int .i64 0, .string (⟨#[]⟩ : ByteArray), .int .i64 0] 51 (0, 0)) (pk_ BK323) hg (Kd.R_ne HO342.out BK323.out (by decide)))
      replace BK344 := Aside0.mk (blk_grown (g := gb344) (o := .cells #[.slice Ao31 t340.length co31, .int .i64 t343] 24 (0, 0)) (pk_ BK344) hg (Kd.R_ne HO342.out BK344.out (by decide)))
      replace HB := Aside0.mk (hb)
      have HO348 := Aside0.mk (ho)
      clear HO342
      clear ho hb hg hat
      obtain ⟨Ao39, co39, eo39⟩ := Kd.R_slice HO348.out
      (first | subst eo39 | (injection eo39 with f1_ f2_ f3_; have f4_ := f1_.symm; have f5_ := f3_.symm; clear f1_ f2_ f3_; subst f4_; subst f5_))
      refine hK.out _ _ ⟨cy_ BK344 0, cy_ BK344 1, cy_ BK322 0, cy_ BK322 1⟩ (fun hHeld => ?_)
      clear hK K
      refine nn_ 38 ?_
      refine pu_ 10 39 HT_ ?_
      refine last_ (i := 11) (N := none) #[true, true, true, true, true, true, true, true, true, true, true, true] rfl rfl (one_of HT_.out (by kernel_rfl)) (by decide) (fun K hK => ?_)
      have hs40 : w38.cell? ⟨gb344, 0, none⟩ = some (.slice Ao31 t340.length co31) := (blk_cell BK344.out 0).trans rfl
      have hfs40 := blk_frozen BK344.out 0
      have hns40_0 := NB322_344.out
      have hns40_1 := NB323_344.out
      have hms40_0 := NB344_322.out
      have hms40_1 := NB344_323.out
      refine skip_ (w1 := ?_) (by rfl) rfl ?_ ?_
      rotate_left
      ·
       go_simp
       rfl
      refine hK.out _ _ ?_
      clear hK K
      refine done_ (done_of HT_.out (by kernel_rfl)) ?_
      have hcz41_0 := cz_ BK322 0 (.slice A0_0 l0_0.length c0_0)
      have hcz41_1 := cz_ BK322 1 (.int .i64 a0_1)
      have hfz41_0 := blk_frozen BK322.out 0
      have hfz41_1 := blk_frozen BK322.out 1
      have hcz42_0 := cz_ BK344 0 (.slice Ao31 t340.length co31)
      have hcz42_1 := cz_ BK344 1 (.int .i64 t343)
      have hfz42_0 := blk_frozen BK344.out 0
      have hfz42_1 := blk_frozen BK344.out 1
      have hcz43_0 := cz_ BK323 0 (.slice none 0 0)
      have hcz43_1 := cz_ BK323 1 (.int .i64 0)
      have hcz43_2 := cz_ BK323 2 (.int .i64 0)
      have hcz43_3 := cz_ BK323 3 (.string (⟨#[]⟩ : ByteArray))
      have hcz43_4 := cz_ BK323 4 (.int .i64 0)
      have hfz43_0 := blk_frozen BK323.out 0
      have hfz43_1 := blk_frozen BK323.out 1
      have hfz43_2 := blk_frozen BK323.out 2
      have hfz43_3 := blk_frozen BK323.out 3
      have hfz43_4 := blk_frozen BK323.out 4
      try go_wp2
      refine bodyPost_ret (results_cell_row rfl _ _ gb323 51 #[.slice Ao39 y346.length co39, .int .i64 (wrap64 (a0_1 + 1)), .int .i64 a0_1, .string (⟨#[]⟩ : ByteArray), .int .i64 0] (0, 0) _ rfl (bq_ BK323) Tryd.underlying51 rfl (by kernel_rfl)) rfl ?_
      exact ⟨_, er_, by (with_reducible repeat (first | apply Kd.R_alloc | apply Kd.R_drewN | apply Kd.R_drew)); exact Kd.R_mono (Kd.R_far (p := ⟨gb323, 4, none⟩) (Kd.R_far (p := ⟨gb323, 3, none⟩) (Kd.R_far (p := ⟨gb323, 2, none⟩) (Kd.R_far (p := ⟨gb323, 1, none⟩) (Kd.R_far (p := ⟨gb323, 0, none⟩) (Kd.R_far (p := ⟨gb344, 1, none⟩) (Kd.R_far (p := ⟨gb344, 0, none⟩) (Kd.R_types (Kd.R_types HO348.out BK344.out (by decide)) BK323.out (by decide)) (fun _ hk => hk.1.2) (.slice Ao39 y346.length co39)) (fun _ hk => hk.1.2) (.int .i64 (wrap64 (a0_1 + 1)))) (fun _ hk => hk.2) (.slice Ao39 y346.length co39)) (fun _ hk => hk.2) (.int .i64 (wrap64 (a0_1 + 1)))) (fun _ hk => hk.2) (.int .i64 a0_1)) (fun _ hk => hk.2) (.string (⟨#[]⟩ : ByteArray))) (fun _ hk => hk.2) (.int .i64 0)) (fun _ hk => trivial), pb_ HB⟩
     rw [if_neg c26] at H
     exact absurd H (by simp)
  replace c6 := Bool.eq_false_iff.mpr c6
  subst c6
  have H1 : ((midrangeref04_failed.f 3).bind fun bt326 => (some (bt326.1, bt326.2.1, bt326.2.2.1, bt326.2.2.2.1, bt326.2.2.2.2))) = some (r1, r2, r3, r4, r5) := by rw [if_neg (show ¬ (false = true) by decide)] at H; exact H
  clear H
  have H := H1
  clear H1
  replace H := Option.bind_eq_some_iff.mp H
  obtain ⟨⟨t326, t329, t330, t331, t332⟩, A440, H⟩ := H
  replace H : (some (t326, t329, t330, t331, t332)) = some (r1, r2, r3, r4, r5) := H
  have A44 := Aside0.mk A440
  clear A440
  simp only [Option.some.injEq, Prod.mk.injEq] at H
  obtain ⟨rfl, rfl, rfl, rfl, rfl⟩ := H
  go_enter Tryd.func52, Tryd.ntmps52
  go_wp2_with (first | ((with_reducible refine gate_dst (N := 2) rfl ?_); refine bx_ 2 #[.slice A0_0 l0_0.length c0_0, .int .i64 a0_1] 24 ?_; intro gb322 hg w45 hbox hb; have BK322 := Aside0.mk (hbox); have GW322 := gw_ hg HB; have GE322 := gw_ hg HB; replace HB := sb_ HB hb; clear hb hbox hg) | ((with_reducible refine gate_dst (N := 4) rfl ?_); refine bx_ 4 #[.slice none 0 0, .int .i64 0, .int .i64 0, .string (⟨#[]⟩ : ByteArray), .int .i64 0] 51 ?_; intro gb323 hg w46 hbox hb; have BK323 := Aside0.mk (hbox); have GW323 := gw_ hg HB; have GE323 := gw_ hg HB; replace HB := sb_ HB hb; have NB322_323 := nl_ hg BK322; have NB323_322 := ng_ hg BK322; replace BK322 := kb_ BK322 hb; clear hb hbox hg; have hnb47 := NB322_323.out; have hnc47 := NB323_322.out; have hcz48_0 := cz_ BK322 0 (.slice A0_0 l0_0.length c0_0); have hcz48_1 := cz_ BK322 1 (.int .i64 a0_1); have hfz48_0 := blk_frozen BK322.out 0; have hfz48_1 := blk_frozen BK322.out 1) | ((with_reducible refine gate_callee (f := 37) rfl ?_); refine gl_ 8 Tryd.func37 #[.agg #[.slice A0_0 l0_0.length c0_0, .int .i64 a0_1]] ?_; (with_reducible refine (midrangeref04_Err.calls k _ _ l0_0 a0_1 t324 _ ?side1 ?side2 A3.out).mono ?_); (case side1 => exact pc_ (Kd.C_below HR0_0.out HB.out)); (case side2 => exact HC0_0.out); rintro e w49 ⟨rfl, hb⟩; refine ⟨_, rfl, ?_⟩; replace BK322 := kb_ BK322 hb; replace BK323 := kb_ BK323 hb; replace HB := sb_ HB hb; (try clear hb); (try clear hb2); (try clear hk); (try clear hi)) | ((with_reducible refine gate_callee (f := 68) rfl ?_); refine gl_ 14 Tryd.func68 #[.int .i64 a1, .int .i64 1, .int .i64 8] ?_; (with_reducible refine (midrangebase_Within.calls a1 1 8 false _ A5.out).mono ?_); rintro e w' ⟨rfl, ⟨nd, rfl⟩⟩; refine ⟨_, rfl, ?_⟩; (try (rw [drewN_self w49]; generalize hq_ : World.drewN w49 _ = w49; have n0_ : Aside0 (w49.heap[gb322]? = some (.cells #[.slice A0_0 l0_0.length c0_0, .int .i64 a0_1] 24 (0, 0))) := ⟨by rw [← hq_]; exact (pk_ BK322)⟩; have n1_ : Aside0 (w49.heap[gb323]? = some (.cells #[.slice none 0 0, .int .i64 0, .int .i64 0, .string (⟨#[]⟩ : ByteArray), .int .i64 0] 51 (0, 0))) := ⟨by rw [← hq_]; exact (pk_ BK323)⟩; have n2_ : Aside0 (Below w.heap.size w w49) := ⟨by rw [← hq_]; exact (pb_ HB)⟩; clear BK322 BK323 HB hq_; have BK322 := n0_; have BK323 := n1_; have HB := n2_; clear n0_ n1_ n2_))) | ((with_reducible refine gate_callee (f := 38) rfl ?_); refine gl_ 16 Tryd.func38 #[.int .i64 3] ?_; (with_reducible refine (midrangeref04_failed.calls 3 t326 t329 t330 t331 t332 _ A44.out).mono ?_); rintro e w50 ⟨v327, rfl, ho0, hb⟩; refine ⟨_, rfl, ?_⟩; have HO328 := Aside0.mk (Kd.R_lower ho0 (below_size (pb_ HB))); replace BK322 := kb_ BK322 hb; replace BK323 := kb_ BK323 hb; replace HB := sb_ HB hb; (try clear hb); (try clear hb2); (try clear hk); (try clear hi); (try clear ho0); obtain ⟨Ao51, co51, eo51⟩ := Kd.R_slice HO328.out; subst eo51; have hcz52_0 := cz_ BK323 0 (.slice none 0 0); have hcz52_1 := cz_ BK323 1 (.int .i64 0); have hcz52_2 := cz_ BK323 2 (.int .i64 0); have hcz52_3 := cz_ BK323 3 (.string (⟨#[]⟩ : ByteArray)); have hcz52_4 := cz_ BK323 4 (.int .i64 0); have hfz52_0 := blk_frozen BK323.out 0; have hfz52_1 := blk_frozen BK323.out 1; have hfz52_2 := blk_frozen BK323.out 2; have hfz52_3 := blk_frozen BK323.out 3; have hfz52_4 := blk_frozen BK323.out 4))
  refine bodyPost_ret (results_cell_row rfl _ _ gb323 51 #[.slice Ao51 t326.length co51, .int .i64 t329, .int .i64 t330, .string t331, .int .i64 t332] (0, 0) _ rfl (bq_ BK323) Tryd.underlying51 rfl (by kernel_rfl)) rfl ?_
  exact ⟨_, er_, by (with_reducible repeat (first | apply Kd.R_alloc | apply Kd.R_drewN | apply Kd.R_drew)); exact Kd.R_mono (Kd.R_far (p := ⟨gb323, 4, none⟩) (Kd.R_far (p := ⟨gb323, 3, none⟩) (Kd.R_far (p := ⟨gb323, 2, none⟩) (Kd.R_far (p := ⟨gb323, 1, none⟩) (Kd.R_far (p := ⟨gb323, 0, none⟩) (Kd.R_types HO328.out BK323.out (by decide)) (fun _ hk => hk.2) (.slice Ao51 t326.length co51)) (fun _ hk => hk.2) (.int .i64 t329)) (fun _ hk => hk.2) (.int .i64 t330)) (fun _ hk => hk.2) (.string t331)) (fun _ hk => hk.2) (.int .i64 t332)) (fun _ hk => trivial), pb_ HB⟩
 rw [if_neg c4] at H
 have c4b0 : (t324 == 0) = false := beq_eq_false_iff_ne.mpr c4
 have c4b1 : (t324 != 0) = true := bne_iff_ne.mpr c4
 simp only [Option.some.injEq, Prod.mk.injEq] at H
 obtain ⟨rfl, rfl, rfl, rfl, rfl⟩ := H
 go_enter Tryd.func52, Tryd.ntmps52
 go_wp2_with (first | ((with_reducible refine gate_dst (N := 2) rfl ?_); refine bx_ 2 #[.slice A0_0 l0_0.length c0_0, .int .i64 a0_1] 24 ?_; intro gb322 hg w53 hbox hb; have BK322 := Aside0.mk (hbox); have GW322 := gw_ hg HB; have GE322 := gw_ hg HB; replace HB := sb_ HB hb; clear hb hbox hg) | ((with_reducible refine gate_dst (N := 4) rfl ?_); refine bx_ 4 #[.slice none 0 0, .int .i64 0, .int .i64 0, .string (⟨#[]⟩ : ByteArray), .int .i64 0] 51 ?_; intro gb323 hg w54 hbox hb; have BK323 := Aside0.mk (hbox); have GW323 := gw_ hg HB; have GE323 := gw_ hg HB; replace HB := sb_ HB hb; have NB322_323 := nl_ hg BK322; have NB323_322 := ng_ hg BK322; replace BK322 := kb_ BK322 hb; clear hb hbox hg; have hnb55 := NB322_323.out; have hnc55 := NB323_322.out; have hcz56_0 := cz_ BK322 0 (.slice A0_0 l0_0.length c0_0); have hcz56_1 := cz_ BK322 1 (.int .i64 a0_1); have hfz56_0 := blk_frozen BK322.out 0; have hfz56_1 := blk_frozen BK322.out 1) | ((with_reducible refine gate_callee (f := 37) rfl ?_); refine gl_ 8 Tryd.func37 #[.agg #[.slice A0_0 l0_0.length c0_0, .int .i64 a0_1]] ?_; (with_reducible refine (midrangeref04_Err.calls k _ _ l0_0 a0_1 t324 _ ?side1 ?side2 A3.out).mono ?_); (case side1 => exact pc_ (Kd.C_below HR0_0.out HB.out)); (case side2 => exact HC0_0.out); rintro e w57 ⟨rfl, hb⟩; refine ⟨_, rfl, ?_⟩; replace BK322 := kb_ BK322 hb; replace BK323 := kb_ BK323 hb; replace HB := sb_ HB hb; (try clear hb); (try clear hb2); (try clear hk); (try clear hi); have hcz58_0 := cz_ BK323 0 (.slice none 0 0); have hcz58_1 := cz_ BK323 1 (.int .i64 0); have hcz58_2 := cz_ BK323 2 (.int .i64 0); have hcz58_3 := cz_ BK323 3 (.string (⟨#[]⟩ : ByteArray)); have hcz58_4 := cz_ BK323 4 (.int .i64 0); have hfz58_0 := blk_frozen BK323.out 0; have hfz58_1 := blk_frozen BK323.out 1; have hfz58_2 := blk_frozen BK323.out 2; have hfz58_3 := blk_frozen BK323.out 3; have hfz58_4 := blk_frozen BK323.out 4))
 refine bodyPost_ret (results_cell_row rfl _ _ gb323 51 #[.slice none 0 0, .int .i64 0, .int .i64 0, .string (⟨#[]⟩ : ByteArray), .int .i64 t324] (0, 0) _ rfl (bq_ BK323) Tryd.underlying51 rfl (by kernel_rfl)) rfl ?_
 exact ⟨_, er_, by first | exact Kd.R_nil _ _ _ _ _ | exact Kd.N_nil _ _ _ _ _ | exact Kd.V_nil _ _ _ _ _ | exact Kd.Q_nil _ _ _ _ _ | exact Kd.S_nil _ _ _ _ _, pb_ HB⟩
def midrangeref04_NumberErr.f (k : Nat) (l0_0 : List (S46)) (a0_1 : Int) (a1 : Int) : Option (Int) := (midrangeref04_Place.f k l0_0 a0_1 a1).bind fun t352 => (if t352 = (-1) then ((midrangebase_Within.f a1 1 (wrap64 (a0_1 - 1))).bind fun t353 => (if t353 = true then (some 24) else (some 11))) else (some 0))
set_option maxHeartbeats 8000000 in
set_option maxRecDepth 100000 in
theorem midrangeref04_NumberErr.calls (k : Nat) (A0_0 : Option Addr) (c0_0 : Nat) (l0_0 : List (S46)) (a0_1 : Int) (a1 : Int) (r : Int) (w : World) (hr0_0 : Kd.C k46 w A0_0 l0_0.length l0_0) (hc0_0 : l0_0.length ≤ c0_0) (h : midrangeref04_NumberErr.f k l0_0 a0_1 a1 = some r) :
  Calls Tryd.prog 83 #[.agg #[.slice A0_0 l0_0.length c0_0, .int .i64 a0_1], .int .i64 a1] w fun e w' => e = .returned (.int .i64 r) ∧ Below w.heap.size w w' := by
 have hu24 := Tryd.underlying24
 have HR0_0 := Aside0.mk hr0_0
 have HC0_0 := Aside0.mk hc0_0
 clear hr0_0 hc0_0
 have HB := Aside0.mk (Below.refl w.heap.size w)
 have H : ((midrangeref04_Place.f k l0_0 a0_1 a1).bind fun t352 => (if t352 = (-1) then ((midrangebase_Within.f a1 1 (wrap64 (a0_1 - 1))).bind fun t353 => (if t353 = true then (some 24) else (some 11))) else (some 0))) = some r := h
 clear h
 replace H := Option.bind_eq_some_iff.mp H
 obtain ⟨t352, A30, H⟩ := H
 replace H : (if t352 = (-1) then ((midrangebase_Within.f a1 1 (wrap64 (a0_1 - 1))).bind fun t353 => (if t353 = true then (some 24) else (some 11))) else (some 0)) = some r := H
 have A3 := Aside0.mk A30
 clear A30
 by_cases c4 : t352 = (-1)
 ·
  rw [if_pos c4] at H
  have c4b0 : (t352 == (-1)) = true := beq_iff_eq.mpr c4
  have c4b1 : (t352 != (-1)) = false := bne_eq_false_iff_eq.mpr c4
  clear c4
  replace H := Option.bind_eq_some_iff.mp H
  obtain ⟨t353, A50, H⟩ := H
  replace H : (if t353 = true then (some 24) else (some 11)) = some r := H
  have A5 := Aside0.mk A50
  clear A50
  by_cases c6 : t353 = true
  ·
   subst c6
   have H1 : (some 24) = some r := by rw [if_pos rfl] at H; exact H
   clear H
   have H := H1
   clear H1
   obtain rfl := Option.some.inj H
   go_enter Tryd.func83, Tryd.ntmps83
   go_wp2_with (first | ((with_reducible refine gate_dst (N := 2) rfl ?_); refine bx_ 2 #[.slice A0_0 l0_0.length c0_0, .int .i64 a0_1] 24 ?_; intro gb351 hg w7 hbox hb; have BK351 := Aside0.mk (hbox); have GW351 := gw_ hg HB; have GE351 := gw_ hg HB; replace HB := sb_ HB hb; clear hb hbox hg; have hcz8_0 := cz_ BK351 0 (.slice A0_0 l0_0.length c0_0); have hcz8_1 := cz_ BK351 1 (.int .i64 a0_1); have hfz8_0 := blk_frozen BK351.out 0; have hfz8_1 := blk_frozen BK351.out 1) | ((with_reducible refine gate_callee (f := 19) rfl ?_); refine gl_ 7 Tryd.func19 #[.agg #[.slice A0_0 l0_0.length c0_0, .int .i64 a0_1], .int .i64 a1] ?_; (with_reducible refine (midrangeref04_Place.calls k _ _ l0_0 a0_1 a1 t352 _ ?side1 ?side2 A3.out).mono ?_); (case side1 => exact pc_ (Kd.C_below HR0_0.out HB.out)); (case side2 => exact HC0_0.out); rintro e w9 ⟨rfl, hb⟩; refine ⟨_, rfl, ?_⟩; replace BK351 := kb_ BK351 hb; replace HB := sb_ HB hb; (try clear hb); (try clear hb2); (try clear hk); (try clear hi); have hcz10_0 := cz_ BK351 0 (.slice A0_0 l0_0.length c0_0); have hcz10_1 := cz_ BK351 1 (.int .i64 a0_1); have hfz10_0 := blk_frozen BK351.out 0; have hfz10_1 := blk_frozen BK351.out 1) | ((with_reducible refine gate_callee (f := 68) rfl ?_); refine gl_ 13 Tryd.func68 #[.int .i64 a1, .int .i64 1, .int .i64 (wrap64 (a0_1 - 1))] ?_; (with_reducible refine (midrangebase_Within.calls a1 1 (wrap64 (a0_1 - 1)) true _ A5.out).mono ?_); rintro e w' ⟨rfl, ⟨nd, rfl⟩⟩; refine ⟨_, rfl, ?_⟩))
   go_ret
   exact ⟨er_, pb_ HB⟩
  replace c6 := Bool.eq_false_iff.mpr c6
  subst c6
  have H1 : (some 11) = some r := by rw [if_neg (show ¬ (false = true) by decide)] at H; exact H
  clear H
  have H := H1
  clear H1
  obtain rfl := Option.some.inj H
  go_enter Tryd.func83, Tryd.ntmps83
  go_wp2_with (first | ((with_reducible refine gate_dst (N := 2) rfl ?_); refine bx_ 2 #[.slice A0_0 l0_0.length c0_0, .int .i64 a0_1] 24 ?_; intro gb351 hg w11 hbox hb; have BK351 := Aside0.mk (hbox); have GW351 := gw_ hg HB; have GE351 := gw_ hg HB; replace HB := sb_ HB hb; clear hb hbox hg; have hcz12_0 := cz_ BK351 0 (.slice A0_0 l0_0.length c0_0); have hcz12_1 := cz_ BK351 1 (.int .i64 a0_1); have hfz12_0 := blk_frozen BK351.out 0; have hfz12_1 := blk_frozen BK351.out 1) | ((with_reducible refine gate_callee (f := 19) rfl ?_); refine gl_ 7 Tryd.func19 #[.agg #[.slice A0_0 l0_0.length c0_0, .int .i64 a0_1], .int .i64 a1] ?_; (with_reducible refine (midrangeref04_Place.calls k _ _ l0_0 a0_1 a1 t352 _ ?side1 ?side2 A3.out).mono ?_); (case side1 => exact pc_ (Kd.C_below HR0_0.out HB.out)); (case side2 => exact HC0_0.out); rintro e w13 ⟨rfl, hb⟩; refine ⟨_, rfl, ?_⟩; replace BK351 := kb_ BK351 hb; replace HB := sb_ HB hb; (try clear hb); (try clear hb2); (try clear hk); (try clear hi); have hcz14_0 := cz_ BK351 0 (.slice A0_0 l0_0.length c0_0); have hcz14_1 := cz_ BK351 1 (.int .i64 a0_1); have hfz14_0 := blk_frozen BK351.out 0; have hfz14_1 := blk_frozen BK351.out 1) | ((with_reducible refine gate_callee (f := 68) rfl ?_); refine gl_ 13 Tryd.func68 #[.int .i64 a1, .int .i64 1, .int .i64 (wrap64 (a0_1 - 1))] ?_; (with_reducible refine (midrangebase_Within.calls a1 1 (wrap64 (a0_1 - 1)) false _ A5.out).mono ?_); rintro e w' ⟨rfl, ⟨nd, rfl⟩⟩; refine ⟨_, rfl, ?_⟩))
  go_ret
  exact ⟨er_, pb_ HB⟩
 rw [if_neg c4] at H
 have c4b0 : (t352 == (-1)) = false := beq_eq_false_iff_ne.mpr c4
 have c4b1 : (t352 != (-1)) = true := bne_iff_ne.mpr c4
 obtain rfl := Option.some.inj H
 go_enter Tryd.func83, Tryd.ntmps83
 go_wp2_with (first | ((with_reducible refine gate_dst (N := 2) rfl ?_); refine bx_ 2 #[.slice A0_0 l0_0.length c0_0, .int .i64 a0_1] 24 ?_; intro gb351 hg w15 hbox hb; have BK351 := Aside0.mk (hbox); have GW351 := gw_ hg HB; have GE351 := gw_ hg HB; replace HB := sb_ HB hb; clear hb hbox hg; have hcz16_0 := cz_ BK351 0 (.slice A0_0 l0_0.length c0_0); have hcz16_1 := cz_ BK351 1 (.int .i64 a0_1); have hfz16_0 := blk_frozen BK351.out 0; have hfz16_1 := blk_frozen BK351.out 1) | ((with_reducible refine gate_callee (f := 19) rfl ?_); refine gl_ 7 Tryd.func19 #[.agg #[.slice A0_0 l0_0.length c0_0, .int .i64 a0_1], .int .i64 a1] ?_; (with_reducible refine (midrangeref04_Place.calls k _ _ l0_0 a0_1 a1 t352 _ ?side1 ?side2 A3.out).mono ?_); (case side1 => exact pc_ (Kd.C_below HR0_0.out HB.out)); (case side2 => exact HC0_0.out); rintro e w17 ⟨rfl, hb⟩; refine ⟨_, rfl, ?_⟩; replace BK351 := kb_ BK351 hb; replace HB := sb_ HB hb; (try clear hb); (try clear hb2); (try clear hk); (try clear hi)))
 go_ret
 exact ⟨er_, pb_ HB⟩
def midrangeref04_known.f (k : Nat) (l0_0 : List (S46)) (a0_1 : Int) (a1 : Int) : Option (Int × Int) := (midrangeref04_Err.f k l0_0 a0_1).bind fun t355 => (if t355 = 0 then ((midrangeref04_Place.f k l0_0 a0_1 a1).bind fun t356 => ((midrangeref04_NumberErr.f k l0_0 a0_1 a1).bind fun t357 => (some (t356, t357)))) else (some ((-1), t355)))
def midrangeref04_known.T4 : Bool × List (List Nat × List Nat) := (true, [([], []), ([], []), ([0, 1], [0, 1]), ([], []), ([], []), ([3, 4, 2], [3, 4]), ([2, 5, 0, 1, 2], [2]), ([5, 6, 0, 1, 2, 3, 4, 5, 6], [5])])
def midrangeref04_known.B4 : List Nat := [0, 0, 3, 0, 0, 31, 63, 127]
theorem midrangeref04_known.tab4 : rtab .any (opsOf Tryd.f70 4) = midrangeref04_known.T4 := by kernel_rfl
theorem midrangeref04_known.bits4 : waitsOk midrangeref04_known.T4.2 midrangeref04_known.B4 = true := by kernel_rfl
set_option maxHeartbeats 8000000 in
set_option maxRecDepth 100000 in
theorem midrangeref04_known.calls (k : Nat) (A0_0 : Option Addr) (c0_0 : Nat) (l0_0 : List (S46)) (a0_1 : Int) (a1 : Int) (r1 : Int) (r2 : Int) (w : World) (hr0_0 : Kd.C k46 w A0_0 l0_0.length l0_0) (hc0_0 : l0_0.length ≤ c0_0) (h : midrangeref04_known.f k l0_0 a0_1 a1 = some (r1, r2)) :
  Calls Tryd.prog 70 #[.agg #[.slice A0_0 l0_0.length c0_0, .int .i64 a0_1], .int .i64 a1] w fun e w' => e = .returned (.tuple #[.int .i64 r1, .int .i64 r2]) ∧ Below w.heap.size w w' := by
 have hu24 := Tryd.underlying24
 have HR0_0 := Aside0.mk hr0_0
 have HC0_0 := Aside0.mk hc0_0
 clear hr0_0 hc0_0
 have HB := Aside0.mk (Below.refl w.heap.size w)
 have H : ((midrangeref04_Err.f k l0_0 a0_1).bind fun t355 => (if t355 = 0 then ((midrangeref04_Place.f k l0_0 a0_1 a1).bind fun t356 => ((midrangeref04_NumberErr.f k l0_0 a0_1 a1).bind fun t357 => (some (t356, t357)))) else (some ((-1), t355)))) = some (r1, r2) := h
 clear h
 replace H := Option.bind_eq_some_iff.mp H
 obtain ⟨t355, A30, H⟩ := H
 replace H : (if t355 = 0 then ((midrangeref04_Place.f k l0_0 a0_1 a1).bind fun t356 => ((midrangeref04_NumberErr.f k l0_0 a0_1 a1).bind fun t357 => (some (t356, t357)))) else (some ((-1), t355))) = some (r1, r2) := H
 have A3 := Aside0.mk A30
 clear A30
 by_cases c4 : t355 = 0
 ·
  rw [if_pos c4] at H
  have c4b0 : (t355 == 0) = true := beq_iff_eq.mpr c4
  have c4b1 : (t355 != 0) = false := bne_eq_false_iff_eq.mpr c4
  clear c4
  replace H := Option.bind_eq_some_iff.mp H
  obtain ⟨t356, A50, H⟩ := H
  replace H : ((midrangeref04_NumberErr.f k l0_0 a0_1 a1).bind fun t357 => (some (t356, t357))) = some (r1, r2) := H
  have A5 := Aside0.mk A50
  clear A50
  replace H := Option.bind_eq_some_iff.mp H
  obtain ⟨t357, A60, H⟩ := H
  replace H : (some (t356, t357)) = some (r1, r2) := H
  have A6 := Aside0.mk A60
  clear A60
  simp only [Option.some.injEq, Prod.mk.injEq] at H
  obtain ⟨rfl, rfl⟩ := H
  go_enter Tryd.func70, Tryd.ntmps70
  try go_wp2_with (first | ((with_reducible refine gate_dst (N := 2) rfl ?_); refine bx_ 2 #[.slice A0_0 l0_0.length c0_0, .int .i64 a0_1] 24 ?_; intro gb354 hg w7 hbox hb; have BK354 := Aside0.mk (hbox); have GW354 := gw_ hg HB; have GE354 := gw_ hg HB; replace HB := sb_ HB hb; clear hb hbox hg; have hcz8_0 := cz_ BK354 0 (.slice A0_0 l0_0.length c0_0); have hcz8_1 := cz_ BK354 1 (.int .i64 a0_1); have hfz8_0 := blk_frozen BK354.out 0; have hfz8_1 := blk_frozen BK354.out 1) | ((with_reducible refine gate_callee (f := 37) rfl ?_); refine gl_ 8 Tryd.func37 #[.agg #[.slice A0_0 l0_0.length c0_0, .int .i64 a0_1]] ?_; (with_reducible refine (midrangeref04_Err.calls k _ _ l0_0 a0_1 t355 _ ?side1 ?side2 A3.out).mono ?_); (case side1 => exact pc_ (Kd.C_below HR0_0.out HB.out)); (case side2 => exact HC0_0.out); rintro e w9 ⟨rfl, hb⟩; refine ⟨_, rfl, ?_⟩; replace BK354 := kb_ BK354 hb; replace HB := sb_ HB hb; (try clear hb); (try clear hb2); (try clear hk); (try clear hi)))
  replace BK354 := Aside0.mk (blk_drew BK354.out)
  replace HB := Aside0.mk (below_drew1 HB.out)
  refine start_ (n := 8) (S := fun w' => w'.cell? ⟨gb354, 0, none⟩ = some (.slice A0_0 l0_0.length c0_0) ∧ w'.cell? ⟨gb354, 1, none⟩ = some (.int .i64 a0_1)) (ds := []) #[false, false, false, false, false, false, false, false] (by kernel_rfl) rfl rfl ⟨cy_ BK354 0, cy_ BK354 1⟩ (fun hHeld => ?_); refine with_tabW midrangeref04_known.tab4 midrangeref04_known.bits4 (fun HT_ HW_ => ?_)
  generalize w9.drew = w10 at BK354 HB hHeld ⊢
  refine pu_ 1 13 HT_ ?_
  refine pu_ 4 16 HT_ ?_
  refine tk_ 0 12 HT_ HW_ hHeld rfl (Or.inl ⟨by rfl, by rintro w' ⟨s0, s1⟩; go_simp; with_reducible rfl⟩) ?_
  refine tk_ 3 15 HT_ HW_ hHeld rfl (Or.inl ⟨by rfl, by rintro w' ⟨s0, s1⟩; go_simp; with_reducible rfl⟩) ?_
  refine one_ (i := 2) (N := some 14) #[true, true, true, true, true, false, false, false] rfl rfl (one_of HT_.out (by kernel_rfl)) (by decide) (fun K hK => ?_)
  refine goes_ Tryd.func19 (by kernel_rfl) rfl #[.agg #[.slice A0_0 l0_0.length c0_0, .int .i64 a0_1], .int .i64 a1] (by rfl) rfl rfl (by (try simp only [List.map_toArray, List.map_cons, List.map_nil]); first | done | rfl | (simp only [List.length_drop, List.length_take]; rfl)) ?_
  with_reducible refine (midrangeref04_Place.calls k _ _ l0_0 a0_1 a1 t356 _ ?side1 ?side2 A5.out).mono ?_
  (case side1 => exact pc_ (Kd.C_below HR0_0.out HB.out))
  (case side2 => exact HC0_0.out)
  rintro e w11 ⟨rfl, hb⟩
  refine ⟨_, rfl, ?_⟩
  replace BK354 := kb_ BK354 hb
  replace HB := sb_ HB hb
  (try clear hb)
  (try clear hb2)
  (try clear hk)
  (try clear hi)
  refine hK.out _ _ ⟨cy_ BK354 0, cy_ BK354 1⟩ (fun hHeld => ?_)
  clear hK K
  refine nn_ 14 ?_
  refine one_ (i := 5) (N := some 17) #[true, true, true, true, true, true, false, false] rfl rfl (one_of HT_.out (by kernel_rfl)) (by decide) (fun K hK => ?_)
  refine goes_ Tryd.func83 (by kernel_rfl) rfl #[.agg #[.slice A0_0 l0_0.length c0_0, .int .i64 a0_1], .int .i64 a1] (by rfl) rfl rfl (by (try simp only [List.map_toArray, List.map_cons, List.map_nil]); first | done | rfl | (simp only [List.length_drop, List.length_take]; rfl)) ?_
  with_reducible refine (midrangeref04_NumberErr.calls k _ _ l0_0 a0_1 a1 t357 _ ?side1 ?side2 A6.out).mono ?_
  (case side1 => exact pc_ (Kd.C_below HR0_0.out HB.out))
  (case side2 => exact HC0_0.out)
  rintro e w12 ⟨rfl, hb⟩
  refine ⟨_, rfl, ?_⟩
  replace BK354 := kb_ BK354 hb
  replace HB := sb_ HB hb
  (try clear hb)
  (try clear hb2)
  (try clear hk)
  (try clear hi)
  refine hK.out _ _ ⟨cy_ BK354 0, cy_ BK354 1⟩ (fun hHeld => ?_)
  clear hK K
  refine nn_ 17 ?_
  refine pu_ 6 4 HT_ ?_
  refine pu_ 7 5 HT_ ?_
  refine done_ (done_of HT_.out (by kernel_rfl)) ?_
  try go_wp2
  go_ret2
  exact ⟨er_, pb_ HB⟩
 rw [if_neg c4] at H
 have c4b0 : (t355 == 0) = false := beq_eq_false_iff_ne.mpr c4
 have c4b1 : (t355 != 0) = true := bne_iff_ne.mpr c4
 simp only [Option.some.injEq, Prod.mk.injEq] at H
 obtain ⟨rfl, rfl⟩ := H
 go_enter Tryd.func70, Tryd.ntmps70
 go_wp2_with (first | ((with_reducible refine gate_dst (N := 2) rfl ?_); refine bx_ 2 #[.slice A0_0 l0_0.length c0_0, .int .i64 a0_1] 24 ?_; intro gb354 hg w13 hbox hb; have BK354 := Aside0.mk (hbox); have GW354 := gw_ hg HB; have GE354 := gw_ hg HB; replace HB := sb_ HB hb; clear hb hbox hg; have hcz14_0 := cz_ BK354 0 (.slice A0_0 l0_0.length c0_0); have hcz14_1 := cz_ BK354 1 (.int .i64 a0_1); have hfz14_0 := blk_frozen BK354.out 0; have hfz14_1 := blk_frozen BK354.out 1) | ((with_reducible refine gate_callee (f := 37) rfl ?_); refine gl_ 8 Tryd.func37 #[.agg #[.slice A0_0 l0_0.length c0_0, .int .i64 a0_1]] ?_; (with_reducible refine (midrangeref04_Err.calls k _ _ l0_0 a0_1 t355 _ ?side1 ?side2 A3.out).mono ?_); (case side1 => exact pc_ (Kd.C_below HR0_0.out HB.out)); (case side2 => exact HC0_0.out); rintro e w15 ⟨rfl, hb⟩; refine ⟨_, rfl, ?_⟩; replace BK354 := kb_ BK354 hb; replace HB := sb_ HB hb; (try clear hb); (try clear hb2); (try clear hk); (try clear hi)))
 go_ret2
 exact ⟨er_, pb_ HB⟩
def midrangeref04_with.f (l0_0 : List (S46)) (a0_1 : Int) (a1 : Int) (a2 : ByteArray) : Option ((List (S46)) × Int) := (midrangeref04_Own.f l0_0 a0_1).bind fun bt360 => (if 0 ≤ a1 then (if a1 < (bt360.1.length : Int) then (some ((bt360.1.set (a1 : Int).toNat (⟨(rd_T46 bt360.1 a1).f0, a2⟩ : S46)), bt360.2)) else (none)) else (none))
set_option maxHeartbeats 8000000 in
set_option maxRecDepth 100000 in
theorem midrangeref04_with.calls (A0_0 : Option Addr) (c0_0 : Nat) (l0_0 : List (S46)) (a0_1 : Int) (a1 : Int) (a2 : ByteArray) (r1 : List (S46)) (r2 : Int) (w : World) (hr0_0 : Kd.C k46 w A0_0 l0_0.length l0_0) (hc0_0 : l0_0.length ≤ c0_0) (h : midrangeref04_with.f l0_0 a0_1 a1 a2 = some (r1, r2)) :
  Calls Tryd.prog 71 #[.agg #[.slice A0_0 l0_0.length c0_0, .int .i64 a0_1], .int .i64 a1, .string a2] w fun e w' => ∃ v0_ : Value, e = .returned (.agg #[v0_, .int .i64 r2]) ∧ Kd.R k46 46 w' w.heap.size (fun _ => True) v0_ r1 ∧ Below w.heap.size w w' := by
 have hu24 := Tryd.underlying24
 have HR0_0 := Aside0.mk hr0_0
 have HC0_0 := Aside0.mk hc0_0
 clear hr0_0 hc0_0
 have HB := Aside0.mk (Below.refl w.heap.size w)
 have H : ((midrangeref04_Own.f l0_0 a0_1).bind fun bt360 => (if 0 ≤ a1 then (if a1 < (bt360.1.length : Int) then (some ((bt360.1.set (a1 : Int).toNat (⟨(rd_T46 bt360.1 a1).f0, a2⟩ : S46)), bt360.2)) else (none)) else (none))) = some (r1, r2) := h
 clear h
 replace H := Option.bind_eq_some_iff.mp H
 obtain ⟨⟨t360, t363⟩, A40, H⟩ := H
 replace H : (if 0 ≤ a1 then (if a1 < (t360.length : Int) then (some ((t360.set (a1 : Int).toNat (⟨(rd_T46 t360 a1).f0, a2⟩ : S46)), t363)) else (none)) else (none)) = some (r1, r2) := H
 have A4 := Aside0.mk A40
 clear A40
 by_cases c5 : 0 ≤ a1
 ·
  rw [if_pos c5] at H
  have c5b0 : decide (0 ≤ a1) = true := decide_eq_true c5
  clear c5
  by_cases c6 : a1 < (t360.length : Int)
  ·
   rw [if_pos c6] at H
   have c6b0 : decide (a1 < (t360.length : Int)) = true := decide_eq_true c6
   clear c6
   obtain ⟨y365, hy365⟩ : ∃ y_ : List (S46), y_ = (t360.set (a1 : Int).toNat (⟨(rd_T46 t360 a1).f0, a2⟩ : S46)) := ⟨_, rfl⟩
   replace H : (some (y365, t363)) = some (r1, r2) := by first | (rw [hy365]; with_reducible exact H) | (have H2_ := (Option.bind_some _ _).symm.trans H; rw [hy365]; with_reducible exact H2_) | (have H2_ := (Option.bind_some _ _).symm.trans H; with_reducible exact H2_) | with_reducible exact H | (rw [hy365]; exact H) | exact H
   have Ny365 := Aside0.mk hy365
   clear hy365
   simp only [Option.some.injEq, Prod.mk.injEq] at H
   obtain ⟨rfl, rfl⟩ := H
   go_enter Tryd.func71, Tryd.ntmps71
   go_wp2_with (first | ((with_reducible refine gate_dst (N := 3) rfl ?_); refine bx_ 3 #[.slice A0_0 l0_0.length c0_0, .int .i64 a0_1] 24 ?_; intro gb358 hg w8 hbox hb; have BK358 := Aside0.mk (hbox); have GW358 := gw_ hg HB; have GE358 := gw_ hg HB; replace HB := sb_ HB hb; clear hb hbox hg) | ((with_reducible refine gate_dst (N := 6) rfl ?_); refine bx_ 6 #[.slice none 0 0, .int .i64 0] 24 ?_; intro gb359 hg w9 hbox hb; have BK359 := Aside0.mk (hbox); have GW359 := gw_ hg HB; have GE359 := gw_ hg HB; replace HB := sb_ HB hb; have NB358_359 := nl_ hg BK358; have NB359_358 := ng_ hg BK358; replace BK358 := kb_ BK358 hb; clear hb hbox hg; have hnb10 := NB358_359.out; have hnc10 := NB359_358.out; have hcz11_0 := cz_ BK358 0 (.slice A0_0 l0_0.length c0_0); have hcz11_1 := cz_ BK358 1 (.int .i64 a0_1); have hfz11_0 := blk_frozen BK358.out 0; have hfz11_1 := blk_frozen BK358.out 1) | ((with_reducible refine gate_callee (f := 8) rfl ?_); refine gl_ 9 Tryd.func8 #[.agg #[.slice A0_0 l0_0.length c0_0, .int .i64 a0_1]] ?_; (with_reducible refine (midrangeref04_Own.calls _ _ l0_0 a0_1 t360 t363 _ ?side1 ?side2 A4.out).mono ?_); (case side1 => exact pc_ (Kd.C_below HR0_0.out HB.out)); (case side2 => exact HC0_0.out); rintro e w12 ⟨v361, rfl, ho0, hb⟩; refine ⟨_, rfl, ?_⟩; have HO362 := Aside0.mk (Kd.R_lower ho0 (below_size (pb_ HB))); replace BK358 := kb_ BK358 hb; replace BK359 := kb_ BK359 hb; replace HB := sb_ HB hb; (try clear hb); (try clear hb2); (try clear hk); (try clear hi); (try clear ho0)) | ((with_reducible refine gate_dst (N := 7) rfl ?_); refine bx_ 7 #[.slice none 0 0, .int .i64 0] 24 ?_; intro gb364 hg w13 hbox hb; replace HO362 := Aside0.mk (Kd.R_below (rk_ HO362) hb); have BK364 := Aside0.mk (hbox); have GW364 := gw_ hg HB; have GE364 := gw_ hg HB; replace HB := sb_ HB hb; have NB358_364 := nl_ hg BK358; have NB364_358 := ng_ hg BK358; replace BK358 := kb_ BK358 hb; have NB359_364 := nl_ hg BK359; have NB364_359 := ng_ hg BK359; replace BK359 := kb_ BK359 hb; clear hb hbox hg; obtain ⟨Ao14, co14, eo14⟩ := Kd.R_slice HO362.out; subst eo14; have hnb15 := NB364_358.out; have hnc15 := NB358_364.out; have hnb16 := NB364_359.out; have hnc16 := NB359_364.out; have hcz17_0 := cz_ BK364 0 (.slice none 0 0); have hcz17_1 := cz_ BK364 1 (.int .i64 0); have hfz17_0 := blk_frozen BK364.out 0; have hfz17_1 := blk_frozen BK364.out 1) | ((with_reducible refine gate_store (t := 24) (p := 7) rfl ?_); refine store_event (t := 24) (p := 7) (v := ?vo_w18) (w1 := ((w13.setCell ⟨gb364, 0, none⟩ (.slice Ao14 t360.length co14)).setCell ⟨gb364, 1, none⟩ (.int .i64 t363))) ?hg ?ho ?hn ?hr ?_; (case ho => rfl); (case hg => rfl); (case hn => rfl); (case hr => first | (go_simp; done) | (go_simp; rfl)); intro w18 hw; have n0_ : Aside0 (Kd.R k46 46 w18 w.heap.size (fun _ => True) (.slice Ao14 t360.length co14) t360) := ⟨(by rw [hw]; exact (by (with_reducible repeat (first | apply Kd.R_alloc | apply Kd.R_drewN | apply Kd.R_drew)); exact Kd.R_mono (Kd.R_far (p := ⟨gb364, 1, none⟩) (Kd.R_far (p := ⟨gb364, 0, none⟩) (Kd.R_types HO362.out BK364.out (by decide)) (fun _ hk => hk.2) (.slice Ao14 t360.length co14)) (fun _ hk => hk.2) (.int .i64 t363)) (fun _ hk => trivial)))⟩; have n1_ : Aside0 (w18.heap[gb358]? = some (.cells #[.slice A0_0 l0_0.length c0_0, .int .i64 a0_1] 24 (0, 0))) := ⟨(by rw [hw]; exact (by (with_reducible repeat (first | refine blk_drewN ?_ _ | refine blk_drew ?_ | refine blk_alloc ?_ _)); refine blk_far ?_ NB358_364.out _; (with_reducible repeat (first | refine blk_drewN ?_ _ | refine blk_drew ?_ | refine blk_alloc ?_ _)); refine blk_far ?_ NB358_364.out _; (with_reducible repeat (first | refine blk_drewN ?_ _ | refine blk_drew ?_ | refine blk_alloc ?_ _)); exact BK358.out))⟩; have n2_ : Aside0 (w18.heap[gb359]? = some (.cells #[.slice none 0 0, .int .i64 0] 24 (0, 0))) := ⟨(by rw [hw]; exact (by (with_reducible repeat (first | refine blk_drewN ?_ _ | refine blk_drew ?_ | refine blk_alloc ?_ _)); refine blk_far ?_ NB359_364.out _; (with_reducible repeat (first | refine blk_drewN ?_ _ | refine blk_drew ?_ | refine blk_alloc ?_ _)); refine blk_far ?_ NB359_364.out _; (with_reducible repeat (first | refine blk_drewN ?_ _ | refine blk_drew ?_ | refine blk_alloc ?_ _)); exact BK359.out))⟩; have n3_ : Aside0 (w18.heap[gb364]? = some (.cells #[.slice Ao14 t360.length co14, .int .i64 t363] 24 (0, 0))) := ⟨(by rw [hw]; exact (bq_ BK364))⟩; have n4_ : Aside0 (Below w.heap.size w w18) := ⟨(by rw [hw]; exact (pb_ HB))⟩; clear hw; clear HO362; clear BK358; clear BK359; clear BK364; clear HB; have HO362 := n0_; have BK358 := n1_; have BK359 := n2_; have BK364 := n3_; have HB := n4_; clear n0_ n1_ n2_ n3_ n4_; have hcz19_0 := cz_ BK364 0 (.slice Ao14 t360.length co14); have hcz19_1 := cz_ BK364 1 (.int .i64 t363); have hfz19_0 := blk_frozen BK364.out 0; have hfz19_1 := blk_frozen BK364.out 1; have p7 : 0 ≤ (a1 : Int) := ct_; have q7 : (a1 : Int) < ((t360.length : Int) : Int) := ct_; obtain ⟨go7, co7, eo7, gb7, gl7, cl7, HG7⟩ := Kd.R_form HO362.out (by omega); (first | cases eo7 | (injection eo7 with ea_ en_ ec_; (first | subst ea_ | (injection ea_ with ea_; subst ea_)); subst ec_; clear en_)); have GB7 := Aside0.mk gb7; have GG7 := Aside0.mk HG7; clear gb7 gl7 HG7; obtain ⟨ce7, hcl7, hM7, hcc7, hfr7⟩ := Kd.R_elem HO362.out z46 (a1 : Int) p7 q7; obtain rfl := k46_openM hM7; have hx7_0 : w18.cell? ⟨go7, (a1 : Int).toNat * 2, none⟩ = some (.int .i64 ((rd_T46 t360 a1).f0)) := hcc7 0 _ rfl; have hx7_1 : w18.cell? ⟨go7, (a1 : Int).toNat * 2 + 1, none⟩ = some (.string ((rd_T46 t360 a1).f1)) := hcc7 1 _ rfl; have hf7_0 : w18.frozen? ⟨go7, (a1 : Int).toNat * 2, none⟩ = false := hfr7 0; have hf7_1 : w18.frozen? ⟨go7, (a1 : Int).toNat * 2 + 1, none⟩ = false := hfr7 1; clear hcl7 hcc7 hfr7 hM7; replace p7 := eq_true p7; replace q7 := eq_true q7; have HX20 := Aside0.mk (show Kd.R k46 46 w18 w.heap.size (fun _ => True) (.slice (some ⟨go7, 0, none⟩) t360.length co14) t360 from (rk_ HO362)); obtain ⟨ce20, hcl20, hM20, hcc20, hfr20⟩ := Kd.R_elem HX20.out z46 (a1 : Int) (ct_) (by have h_ : (a1 : Int) < ((t360.length : Int) : Int) := ct_; first | exact h_ | (have e_ := (Kd.R_reads' HO362.out).1; omega) | simpa using h_); obtain rfl := k46_openM hM20; have HP20 := Kd.R_seg HX20.out (a1 : Int) (ct_) (by have h_ : (a1 : Int) < ((t360.length : Int) : Int) := ct_; first | exact h_ | (have e_ := (Kd.R_reads' HO362.out).1; omega) | simpa using h_) (seg := [.string a2]) (j := 1) hcl20 hcc20 (show 2 ≤ 2 from by decide) (x' := (⟨(rd_T46 t360 a1).f0, a2⟩ : S46)) (k46_mkM _ _ _ (⟨(rd_T46 t360 a1).f0, a2⟩ : S46) ) (fun _ hk => hk); have hx20_1 := hcc20 1 _ rfl; (try simp only [show (k46).sz = 2 from rfl, Nat.mul_one, Nat.add_zero] at hx20_1); have hf20_1 := hfr20 1; (try simp only [show (k46).sz = 2 from rfl, Nat.mul_one, Nat.add_zero] at hf20_1); clear hcl20 hcc20 hfr20 hM20) | ((with_reducible refine gate_store (t := 9) (p := 15) rfl ?_); refine store_event (t := 9) (p := 15) (v := ?vo_w21) (w1 := (w18.setCell ⟨go7, (a1 : Int).toNat * 2 + 1, none⟩ (.string a2))) ?hg ?ho ?hn ?hr ?_; (case ho => rfl); (case hg => rfl); (case hn => rfl); (case hr => first | (go_simp; done) | (go_simp; rfl)); intro w21 hw; have hg : w18.grownBy w21 (some go7) := (by rw [hw]; exact HP20.2); have hp_ : Kd.R k46 46 w21 w.heap.size (fun _ => True) (.slice (some ⟨go7, 0, none⟩) t360.length co14) y365 := (by rw [hw, Ny365.out]; exact HP20.1); clear HP20; replace BK358 := Aside0.mk (blk_grown (g := gb358) (o := .cells #[.slice A0_0 l0_0.length c0_0, .int .i64 a0_1] 24 (0, 0)) (pk_ BK358) hg (Kd.R_ne HO362.out BK358.out (by decide))); replace BK359 := Aside0.mk (blk_grown (g := gb359) (o := .cells #[.slice none 0 0, .int .i64 0] 24 (0, 0)) (pk_ BK359) hg (Kd.R_ne HO362.out BK359.out (by decide))); replace BK364 := Aside0.mk (blk_grown (g := gb364) (o := .cells #[.slice (some ⟨go7, 0, none⟩) t360.length co14, .int .i64 t363] 24 (0, 0)) (pk_ BK364) hg (Kd.R_ne HO362.out BK364.out (by decide))); replace HO362 := Aside0.mk (hp_); replace HB := Aside0.mk ((by rw [hw]; exact below_set (HB.out) GB7.out : Below w.heap.size w w21)); clear hg hw hp_; have hcz22_0 := cz_ BK364 0 (.slice (some ⟨go7, 0, none⟩) t360.length co14); have hcz22_1 := cz_ BK364 1 (.int .i64 t363); have hfz22_0 := blk_frozen BK364.out 0; have hfz22_1 := blk_frozen BK364.out 1; have hcz23_0 := cz_ BK359 0 (.slice none 0 0); have hcz23_1 := cz_ BK359 1 (.int .i64 0); have hfz23_0 := blk_frozen BK359.out 0; have hfz23_1 := blk_frozen BK359.out 1))
   refine bodyPost_ret (results_cell_row rfl _ _ gb359 24 #[.slice (some ⟨go7, 0, none⟩) t360.length co14, .int .i64 t363] (0, 0) _ rfl (bq_ BK359) Tryd.underlying24 rfl (by kernel_rfl)) rfl ?_
   exact ⟨_, er_, by (with_reducible repeat (first | apply Kd.R_alloc | apply Kd.R_drewN | apply Kd.R_drew)); exact Kd.R_mono (Kd.R_far (p := ⟨gb359, 1, none⟩) (Kd.R_far (p := ⟨gb359, 0, none⟩) (Kd.R_types HO362.out BK359.out (by decide)) (fun _ hk => hk.2) (.slice (some ⟨go7, 0, none⟩) t360.length co14)) (fun _ hk => hk.2) (.int .i64 t363)) (fun _ hk => trivial), pb_ HB⟩
  rw [if_neg c6] at H
  exact absurd H (by simp)
 rw [if_neg c5] at H
 exact absurd H (by simp)
def midrangeref04_Extended.f (k : Nat) (l0_0 : List (S46)) (a0_1 : Int) (a1 : Int) (a2 : Int) : Option ((List (S46)) × Int × Int × ByteArray × Int) := (midrangeref04_known.f k l0_0 a0_1 a1).bind fun bt368 => (if bt368.2 = 0 then ((midrangebase_Within.f a2 1 8).bind fun t370 => (if t370 = true then (if 0 ≤ bt368.1 then (if bt368.1 < (l0_0.length : Int) then ((midrangeref04_Pages.f ((rd_T46 l0_0 bt368.1).f1)).bind fun t379 => (if (wrap64 (t379 + a2)) > 8 then ((midrangeref04_failed.f 30).bind fun bt380 => (some (bt380.1, bt380.2.1, bt380.2.2.1, bt380.2.2.2.1, bt380.2.2.2.2))) else ((midrangeref04_Zeros.f k (wrap64 (a2 * 32))).bind fun t387 => (if ((rd_T46 l0_0 bt368.1).f1).size + t387.size ≤ 9223372036854775807 then ((midrangeref04_with.f l0_0 a0_1 bt368.1 (((rd_T46 l0_0 bt368.1).f1) ++ t387)).bind fun bt388 => (some (bt388.1, bt388.2, 0, (⟨#[]⟩ : ByteArray), 0))) else (none))))) else (none)) else (none)) else ((midrangeref04_failed.f 3).bind fun bt371 => (some (bt371.1, bt371.2.1, bt371.2.2.1, bt371.2.2.2.1, bt371.2.2.2.2))))) else (some (([] : List (S46)), 0, 0, (⟨#[]⟩ : ByteArray), bt368.2)))
def midrangeref04_Extended.T9 : Bool × List (List Nat × List Nat) := (true, [([], []), ([], []), ([], []), ([], []), ([3], [3]), ([4], [4]), ([2, 5], [2, 5]), ([0, 1, 6, 5], [0, 1, 6]), ([7], [7]), ([8, 7, 0, 1, 2, 3, 4, 5, 6, 7, 8], [8])])
def midrangeref04_Extended.B9 : List Nat := [0, 0, 0, 0, 8, 24, 60, 127, 255, 511]
theorem midrangeref04_Extended.tab9 : rtab .any (opsOf Tryd.f53 9) = midrangeref04_Extended.T9 := by kernel_rfl
theorem midrangeref04_Extended.bits9 : waitsOk midrangeref04_Extended.T9.2 midrangeref04_Extended.B9 = true := by kernel_rfl
set_option maxHeartbeats 8000000 in
set_option maxRecDepth 100000 in
theorem midrangeref04_Extended.calls (k : Nat) (A0_0 : Option Addr) (c0_0 : Nat) (l0_0 : List (S46)) (a0_1 : Int) (a1 : Int) (a2 : Int) (r1 : List (S46)) (r2 : Int) (r3 : Int) (r4 : ByteArray) (r5 : Int) (w : World) (hr0_0 : Kd.C k46 w A0_0 l0_0.length l0_0) (hc0_0 : l0_0.length ≤ c0_0) (h : midrangeref04_Extended.f k l0_0 a0_1 a1 a2 = some (r1, r2, r3, r4, r5)) :
  Calls Tryd.prog 53 #[.agg #[.slice A0_0 l0_0.length c0_0, .int .i64 a0_1], .int .i64 a1, .int .i64 a2] w fun e w' => ∃ v0_ : Value, e = .returned (.agg #[v0_, .int .i64 r2, .int .i64 r3, .string r4, .int .i64 r5]) ∧ Kd.R k46 46 w' w.heap.size (fun _ => True) v0_ r1 ∧ Below w.heap.size w w' := by
 have hu24 := Tryd.underlying24
 have hu51 := Tryd.underlying51
 have HR0_0 := Aside0.mk hr0_0
 have HC0_0 := Aside0.mk hc0_0
 clear hr0_0 hc0_0
 have HB := Aside0.mk (Below.refl w.heap.size w)
 have H : ((midrangeref04_known.f k l0_0 a0_1 a1).bind fun bt368 => (if bt368.2 = 0 then ((midrangebase_Within.f a2 1 8).bind fun t370 => (if t370 = true then (if 0 ≤ bt368.1 then (if bt368.1 < (l0_0.length : Int) then ((midrangeref04_Pages.f ((rd_T46 l0_0 bt368.1).f1)).bind fun t379 => (if (wrap64 (t379 + a2)) > 8 then ((midrangeref04_failed.f 30).bind fun bt380 => (some (bt380.1, bt380.2.1, bt380.2.2.1, bt380.2.2.2.1, bt380.2.2.2.2))) else ((midrangeref04_Zeros.f k (wrap64 (a2 * 32))).bind fun t387 => (if ((rd_T46 l0_0 bt368.1).f1).size + t387.size ≤ 9223372036854775807 then ((midrangeref04_with.f l0_0 a0_1 bt368.1 (((rd_T46 l0_0 bt368.1).f1) ++ t387)).bind fun bt388 => (some (bt388.1, bt388.2, 0, (⟨#[]⟩ : ByteArray), 0))) else (none))))) else (none)) else (none)) else ((midrangeref04_failed.f 3).bind fun bt371 => (some (bt371.1, bt371.2.1, bt371.2.2.1, bt371.2.2.2.1, bt371.2.2.2.2))))) else (some (([] : List (S46)), 0, 0, (⟨#[]⟩ : ByteArray), bt368.2)))) = some (r1, r2, r3, r4, r5) := h
 clear h
 replace H := Option.bind_eq_some_iff.mp H
 obtain ⟨⟨t368, t369⟩, A40, H⟩ := H
 replace H : (if t369 = 0 then ((midrangebase_Within.f a2 1 8).bind fun t370 => (if t370 = true then (if 0 ≤ t368 then (if t368 < (l0_0.length : Int) then ((midrangeref04_Pages.f ((rd_T46 l0_0 t368).f1)).bind fun t379 => (if (wrap64 (t379 + a2)) > 8 then ((midrangeref04_failed.f 30).bind fun bt380 => (some (bt380.1, bt380.2.1, bt380.2.2.1, bt380.2.2.2.1, bt380.2.2.2.2))) else ((midrangeref04_Zeros.f k (wrap64 (a2 * 32))).bind fun t387 => (if ((rd_T46 l0_0 t368).f1).size + t387.size ≤ 9223372036854775807 then ((midrangeref04_with.f l0_0 a0_1 t368 (((rd_T46 l0_0 t368).f1) ++ t387)).bind fun bt388 => (some (bt388.1, bt388.2, 0, (⟨#[]⟩ : ByteArray), 0))) else (none))))) else (none)) else (none)) else ((midrangeref04_failed.f 3).bind fun bt371 => (some (bt371.1, bt371.2.1, bt371.2.2.1, bt371.2.2.2.1, bt371.2.2.2.2))))) else (some (([] : List (S46)), 0, 0, (⟨#[]⟩ : ByteArray), t369))) = some (r1, r2, r3, r4, r5) := H
 have A4 := Aside0.mk A40
 clear A40
 by_cases c5 : t369 = 0
 ·
  rw [if_pos c5] at H
  have c5b0 : (t369 == 0) = true := beq_iff_eq.mpr c5
  have c5b1 : (t369 != 0) = false := bne_eq_false_iff_eq.mpr c5
  clear c5
  replace H := Option.bind_eq_some_iff.mp H
  obtain ⟨t370, A60, H⟩ := H
  replace H : (if t370 = true then (if 0 ≤ t368 then (if t368 < (l0_0.length : Int) then ((midrangeref04_Pages.f ((rd_T46 l0_0 t368).f1)).bind fun t379 => (if (wrap64 (t379 + a2)) > 8 then ((midrangeref04_failed.f 30).bind fun bt380 => (some (bt380.1, bt380.2.1, bt380.2.2.1, bt380.2.2.2.1, bt380.2.2.2.2))) else ((midrangeref04_Zeros.f k (wrap64 (a2 * 32))).bind fun t387 => (if ((rd_T46 l0_0 t368).f1).size + t387.size ≤ 9223372036854775807 then ((midrangeref04_with.f l0_0 a0_1 t368 (((rd_T46 l0_0 t368).f1) ++ t387)).bind fun bt388 => (some (bt388.1, bt388.2, 0, (⟨#[]⟩ : ByteArray), 0))) else (none))))) else (none)) else (none)) else ((midrangeref04_failed.f 3).bind fun bt371 => (some (bt371.1, bt371.2.1, bt371.2.2.1, bt371.2.2.2.1, bt371.2.2.2.2)))) = some (r1, r2, r3, r4, r5) := H
  have A6 := Aside0.mk A60
  clear A60
  by_cases c7 : t370 = true
  ·
   subst c7
   have H1 : (if 0 ≤ t368 then (if t368 < (l0_0.length : Int) then ((midrangeref04_Pages.f ((rd_T46 l0_0 t368).f1)).bind fun t379 => (if (wrap64 (t379 + a2)) > 8 then ((midrangeref04_failed.f 30).bind fun bt380 => (some (bt380.1, bt380.2.1, bt380.2.2.1, bt380.2.2.2.1, bt380.2.2.2.2))) else ((midrangeref04_Zeros.f k (wrap64 (a2 * 32))).bind fun t387 => (if ((rd_T46 l0_0 t368).f1).size + t387.size ≤ 9223372036854775807 then ((midrangeref04_with.f l0_0 a0_1 t368 (((rd_T46 l0_0 t368).f1) ++ t387)).bind fun bt388 => (some (bt388.1, bt388.2, 0, (⟨#[]⟩ : ByteArray), 0))) else (none))))) else (none)) else (none)) = some (r1, r2, r3, r4, r5) := by rw [if_pos rfl] at H; exact H
   clear H
   have H := H1
   clear H1
   by_cases c8 : 0 ≤ t368
   ·
    rw [if_pos c8] at H
    have c8b0 : decide (0 ≤ t368) = true := decide_eq_true c8
    clear c8
    by_cases c9 : t368 < (l0_0.length : Int)
    ·
     rw [if_pos c9] at H
     have c9b0 : decide (t368 < (l0_0.length : Int)) = true := decide_eq_true c9
     clear c9
     replace H := Option.bind_eq_some_iff.mp H
     obtain ⟨t379, A100, H⟩ := H
     replace H : (if (wrap64 (t379 + a2)) > 8 then ((midrangeref04_failed.f 30).bind fun bt380 => (some (bt380.1, bt380.2.1, bt380.2.2.1, bt380.2.2.2.1, bt380.2.2.2.2))) else ((midrangeref04_Zeros.f k (wrap64 (a2 * 32))).bind fun t387 => (if ((rd_T46 l0_0 t368).f1).size + t387.size ≤ 9223372036854775807 then ((midrangeref04_with.f l0_0 a0_1 t368 (((rd_T46 l0_0 t368).f1) ++ t387)).bind fun bt388 => (some (bt388.1, bt388.2, 0, (⟨#[]⟩ : ByteArray), 0))) else (none)))) = some (r1, r2, r3, r4, r5) := H
     have A10 := Aside0.mk A100
     clear A100
     by_cases c11 : (wrap64 (t379 + a2)) > 8
     ·
      rw [if_pos c11] at H
      have c11b0 : decide (8 < (wrap64 (t379 + a2))) = true := decide_eq_true c11
      clear c11
      replace H := Option.bind_eq_some_iff.mp H
      obtain ⟨⟨t380, t383, t384, t385, t386⟩, A120, H⟩ := H
      replace H : (some (t380, t383, t384, t385, t386)) = some (r1, r2, r3, r4, r5) := H
      have A12 := Aside0.mk A120
      clear A120
      simp only [Option.some.injEq, Prod.mk.injEq] at H
      obtain ⟨rfl, rfl, rfl, rfl, rfl⟩ := H
      go_enter Tryd.func53, Tryd.ntmps53
      go_wp2_with (first | ((with_reducible refine gate_dst (N := 3) rfl ?_); refine bx_ 3 #[.slice A0_0 l0_0.length c0_0, .int .i64 a0_1] 24 ?_; intro gb366 hg w13 hbox hb; have BK366 := Aside0.mk (hbox); have GW366 := gw_ hg HB; have GE366 := gw_ hg HB; replace HB := sb_ HB hb; clear hb hbox hg) | ((with_reducible refine gate_dst (N := 6) rfl ?_); refine bx_ 6 #[.slice none 0 0, .int .i64 0, .int .i64 0, .string (⟨#[]⟩ : ByteArray), .int .i64 0] 51 ?_; intro gb367 hg w14 hbox hb; have BK367 := Aside0.mk (hbox); have GW367 := gw_ hg HB; have GE367 := gw_ hg HB; replace HB := sb_ HB hb; have NB366_367 := nl_ hg BK366; have NB367_366 := ng_ hg BK366; replace BK366 := kb_ BK366 hb; clear hb hbox hg; have hnb15 := NB366_367.out; have hnc15 := NB367_366.out; have hcz16_0 := cz_ BK366 0 (.slice A0_0 l0_0.length c0_0); have hcz16_1 := cz_ BK366 1 (.int .i64 a0_1); have hfz16_0 := blk_frozen BK366.out 0; have hfz16_1 := blk_frozen BK366.out 1) | ((with_reducible refine gate_callee (f := 70) rfl ?_); refine gl_ 13 Tryd.func70 #[.agg #[.slice A0_0 l0_0.length c0_0, .int .i64 a0_1], .int .i64 a1] ?_; (with_reducible refine (midrangeref04_known.calls k _ _ l0_0 a0_1 a1 t368 t369 _ ?side1 ?side2 A4.out).mono ?_); (case side1 => exact pc_ (Kd.C_below HR0_0.out HB.out)); (case side2 => exact HC0_0.out); rintro e w17 ⟨rfl, hb⟩; refine ⟨_, rfl, ?_⟩; replace BK366 := kb_ BK366 hb; replace BK367 := kb_ BK367 hb; replace HB := sb_ HB hb; (try clear hb); (try clear hb2); (try clear hk); (try clear hi)) | ((with_reducible refine gate_callee (f := 68) rfl ?_); refine gl_ 21 Tryd.func68 #[.int .i64 a2, .int .i64 1, .int .i64 8] ?_; (with_reducible refine (midrangebase_Within.calls a2 1 8 true _ A6.out).mono ?_); rintro e w' ⟨rfl, ⟨nd, rfl⟩⟩; refine ⟨_, rfl, ?_⟩; (try (rw [drewN_self w17]; generalize hq_ : World.drewN w17 _ = w17; have n0_ : Aside0 (w17.heap[gb366]? = some (.cells #[.slice A0_0 l0_0.length c0_0, .int .i64 a0_1] 24 (0, 0))) := ⟨by rw [← hq_]; exact (pk_ BK366)⟩; have n1_ : Aside0 (w17.heap[gb367]? = some (.cells #[.slice none 0 0, .int .i64 0, .int .i64 0, .string (⟨#[]⟩ : ByteArray), .int .i64 0] 51 (0, 0))) := ⟨by rw [← hq_]; exact (pk_ BK367)⟩; have n2_ : Aside0 (Below w.heap.size w w17) := ⟨by rw [← hq_]; exact (pb_ HB)⟩; clear BK366 BK367 HB hq_; have BK366 := n0_; have BK367 := n1_; have HB := n2_; clear n0_ n1_ n2_)); have hcz18_0 := cz_ BK366 0 (.slice A0_0 l0_0.length c0_0); have hcz18_1 := cz_ BK366 1 (.int .i64 a0_1); have hfz18_0 := blk_frozen BK366.out 0; have hfz18_1 := blk_frozen BK366.out 1; have p378 : 0 ≤ (t368 : Int) := ct_; have q378 : t368 < (l0_0.length : Int) := ct_; obtain ⟨ad378, e378, hx378_0, hx378_1⟩ := at_T46 HR0_0.out t368 p378 q378; cases e378; replace hx378_0 := pw_cell_below HB.out hx378_0; replace hx378_1 := pw_cell_below HB.out hx378_1; replace p378 := eq_true p378; replace q378 := eq_true q378) | ((with_reducible refine gate_callee (f := 20) rfl ?_); refine gl_ 31 Tryd.func20 #[.string ((rd_T46 l0_0 t368).f1)] ?_; (with_reducible refine (midrangeref04_Pages.calls ((rd_T46 l0_0 t368).f1) t379 _ A10.out).mono ?_); rintro e w' ⟨rfl, ⟨nd, rfl⟩⟩; refine ⟨_, rfl, ?_⟩; (try (rw [drewN_self w17]; generalize hq_ : World.drewN w17 _ = w17; have n0_ : Aside0 (w17.heap[gb366]? = some (.cells #[.slice (some ad378) l0_0.length c0_0, .int .i64 a0_1] 24 (0, 0))) := ⟨by rw [← hq_]; exact (pk_ BK366)⟩; have n1_ : Aside0 (w17.heap[gb367]? = some (.cells #[.slice none 0 0, .int .i64 0, .int .i64 0, .string (⟨#[]⟩ : ByteArray), .int .i64 0] 51 (0, 0))) := ⟨by rw [← hq_]; exact (pk_ BK367)⟩; have n2_ : Aside0 (Below w.heap.size w w17) := ⟨by rw [← hq_]; exact (pb_ HB)⟩; clear BK366 BK367 HB hq_; have BK366 := n0_; have BK367 := n1_; have HB := n2_; clear n0_ n1_ n2_))) | ((with_reducible refine gate_callee (f := 38) rfl ?_); refine gl_ 35 Tryd.func38 #[.int .i64 30] ?_; (with_reducible refine (midrangeref04_failed.calls 30 t380 t383 t384 t385 t386 _ A12.out).mono ?_); rintro e w19 ⟨v381, rfl, ho0, hb⟩; refine ⟨_, rfl, ?_⟩; have HO382 := Aside0.mk (Kd.R_lower ho0 (below_size (pb_ HB))); replace BK366 := kb_ BK366 hb; replace BK367 := kb_ BK367 hb; replace HB := sb_ HB hb; (try clear hb); (try clear hb2); (try clear hk); (try clear hi); (try clear ho0); obtain ⟨Ao20, co20, eo20⟩ := Kd.R_slice HO382.out; subst eo20; have hcz21_0 := cz_ BK367 0 (.slice none 0 0); have hcz21_1 := cz_ BK367 1 (.int .i64 0); have hcz21_2 := cz_ BK367 2 (.int .i64 0); have hcz21_3 := cz_ BK367 3 (.string (⟨#[]⟩ : ByteArray)); have hcz21_4 := cz_ BK367 4 (.int .i64 0); have hfz21_0 := blk_frozen BK367.out 0; have hfz21_1 := blk_frozen BK367.out 1; have hfz21_2 := blk_frozen BK367.out 2; have hfz21_3 := blk_frozen BK367.out 3; have hfz21_4 := blk_frozen BK367.out 4))
      refine bodyPost_ret (results_cell_row rfl _ _ gb367 51 #[.slice Ao20 t380.length co20, .int .i64 t383, .int .i64 t384, .string t385, .int .i64 t386] (0, 0) _ rfl (bq_ BK367) Tryd.underlying51 rfl (by kernel_rfl)) rfl ?_
      exact ⟨_, er_, by (with_reducible repeat (first | apply Kd.R_alloc | apply Kd.R_drewN | apply Kd.R_drew)); exact Kd.R_mono (Kd.R_far (p := ⟨gb367, 4, none⟩) (Kd.R_far (p := ⟨gb367, 3, none⟩) (Kd.R_far (p := ⟨gb367, 2, none⟩) (Kd.R_far (p := ⟨gb367, 1, none⟩) (Kd.R_far (p := ⟨gb367, 0, none⟩) (Kd.R_types HO382.out BK367.out (by decide)) (fun _ hk => hk.2) (.slice Ao20 t380.length co20)) (fun _ hk => hk.2) (.int .i64 t383)) (fun _ hk => hk.2) (.int .i64 t384)) (fun _ hk => hk.2) (.string t385)) (fun _ hk => hk.2) (.int .i64 t386)) (fun _ hk => trivial), pb_ HB⟩
     rw [if_neg c11] at H
     have c11b0 : decide (8 < (wrap64 (t379 + a2))) = false := decide_eq_false c11
     clear c11
     replace H := Option.bind_eq_some_iff.mp H
     obtain ⟨t387, A220, H⟩ := H
     replace H : (if ((rd_T46 l0_0 t368).f1).size + t387.size ≤ 9223372036854775807 then ((midrangeref04_with.f l0_0 a0_1 t368 (((rd_T46 l0_0 t368).f1) ++ t387)).bind fun bt388 => (some (bt388.1, bt388.2, 0, (⟨#[]⟩ : ByteArray), 0))) else (none)) = some (r1, r2, r3, r4, r5) := H
     have A22 := Aside0.mk A220
     clear A220
     by_cases c23 : ((rd_T46 l0_0 t368).f1).size + t387.size ≤ 9223372036854775807
     ·
      rw [if_pos c23] at H
      have c23b0 := eq_true c23
      have c23b1 : decide (((rd_T46 l0_0 t368).f1).size + t387.size ≤ 9223372036854775807) = true := decide_eq_true c23
      try have c23b2 : (9223372036854775807 < ((rd_T46 l0_0 t368).f1).size + t387.size) = False := eq_false (Nat.not_lt.2 c23)
      clear c23
      replace H := Option.bind_eq_some_iff.mp H
      obtain ⟨⟨t388, t391⟩, A240, H⟩ := H
      replace H : (some (t388, t391, 0, (⟨#[]⟩ : ByteArray), 0)) = some (r1, r2, r3, r4, r5) := H
      have A24 := Aside0.mk A240
      clear A240
      simp only [Option.some.injEq, Prod.mk.injEq] at H
      obtain ⟨rfl, rfl, rfl, rfl, rfl⟩ := H
      go_enter Tryd.func53, Tryd.ntmps53
      try go_wp2_with (first | ((with_reducible refine gate_dst (N := 3) rfl ?_); refine bx_ 3 #[.slice A0_0 l0_0.length c0_0, .int .i64 a0_1] 24 ?_; intro gb366 hg w25 hbox hb; have BK366 := Aside0.mk (hbox); have GW366 := gw_ hg HB; have GE366 := gw_ hg HB; replace HB := sb_ HB hb; clear hb hbox hg) | ((with_reducible refine gate_dst (N := 6) rfl ?_); refine bx_ 6 #[.slice none 0 0, .int .i64 0, .int .i64 0, .string (⟨#[]⟩ : ByteArray), .int .i64 0] 51 ?_; intro gb367 hg w26 hbox hb; have BK367 := Aside0.mk (hbox); have GW367 := gw_ hg HB; have GE367 := gw_ hg HB; replace HB := sb_ HB hb; have NB366_367 := nl_ hg BK366; have NB367_366 := ng_ hg BK366; replace BK366 := kb_ BK366 hb; clear hb hbox hg; have hnb27 := NB366_367.out; have hnc27 := NB367_366.out; have hcz28_0 := cz_ BK366 0 (.slice A0_0 l0_0.length c0_0); have hcz28_1 := cz_ BK366 1 (.int .i64 a0_1); have hfz28_0 := blk_frozen BK366.out 0; have hfz28_1 := blk_frozen BK366.out 1) | ((with_reducible refine gate_callee (f := 70) rfl ?_); refine gl_ 13 Tryd.func70 #[.agg #[.slice A0_0 l0_0.length c0_0, .int .i64 a0_1], .int .i64 a1] ?_; (with_reducible refine (midrangeref04_known.calls k _ _ l0_0 a0_1 a1 t368 t369 _ ?side1 ?side2 A4.out).mono ?_); (case side1 => exact pc_ (Kd.C_below HR0_0.out HB.out)); (case side2 => exact HC0_0.out); rintro e w29 ⟨rfl, hb⟩; refine ⟨_, rfl, ?_⟩; replace BK366 := kb_ BK366 hb; replace BK367 := kb_ BK367 hb; replace HB := sb_ HB hb; (try clear hb); (try clear hb2); (try clear hk); (try clear hi)) | ((with_reducible refine gate_callee (f := 68) rfl ?_); refine gl_ 21 Tryd.func68 #[.int .i64 a2, .int .i64 1, .int .i64 8] ?_; (with_reducible refine (midrangebase_Within.calls a2 1 8 true _ A6.out).mono ?_); rintro e w' ⟨rfl, ⟨nd, rfl⟩⟩; refine ⟨_, rfl, ?_⟩; (try (rw [drewN_self w29]; generalize hq_ : World.drewN w29 _ = w29; have n0_ : Aside0 (w29.heap[gb366]? = some (.cells #[.slice A0_0 l0_0.length c0_0, .int .i64 a0_1] 24 (0, 0))) := ⟨by rw [← hq_]; exact (pk_ BK366)⟩; have n1_ : Aside0 (w29.heap[gb367]? = some (.cells #[.slice none 0 0, .int .i64 0, .int .i64 0, .string (⟨#[]⟩ : ByteArray), .int .i64 0] 51 (0, 0))) := ⟨by rw [← hq_]; exact (pk_ BK367)⟩; have n2_ : Aside0 (Below w.heap.size w w29) := ⟨by rw [← hq_]; exact (pb_ HB)⟩; clear BK366 BK367 HB hq_; have BK366 := n0_; have BK367 := n1_; have HB := n2_; clear n0_ n1_ n2_)); have hcz30_0 := cz_ BK366 0 (.slice A0_0 l0_0.length c0_0); have hcz30_1 := cz_ BK366 1 (.int .i64 a0_1); have hfz30_0 := blk_frozen BK366.out 0; have hfz30_1 := blk_frozen BK366.out 1; have p378 : 0 ≤ (t368 : Int) := ct_; have q378 : t368 < (l0_0.length : Int) := ct_; obtain ⟨ad378, e378, hx378_0, hx378_1⟩ := at_T46 HR0_0.out t368 p378 q378; cases e378; replace hx378_0 := pw_cell_below HB.out hx378_0; replace hx378_1 := pw_cell_below HB.out hx378_1; replace p378 := eq_true p378; replace q378 := eq_true q378) | ((with_reducible refine gate_callee (f := 20) rfl ?_); refine gl_ 31 Tryd.func20 #[.string ((rd_T46 l0_0 t368).f1)] ?_; (with_reducible refine (midrangeref04_Pages.calls ((rd_T46 l0_0 t368).f1) t379 _ A10.out).mono ?_); rintro e w' ⟨rfl, ⟨nd, rfl⟩⟩; refine ⟨_, rfl, ?_⟩; (try (rw [drewN_self w29]; generalize hq_ : World.drewN w29 _ = w29; have n0_ : Aside0 (w29.heap[gb366]? = some (.cells #[.slice (some ad378) l0_0.length c0_0, .int .i64 a0_1] 24 (0, 0))) := ⟨by rw [← hq_]; exact (pk_ BK366)⟩; have n1_ : Aside0 (w29.heap[gb367]? = some (.cells #[.slice none 0 0, .int .i64 0, .int .i64 0, .string (⟨#[]⟩ : ByteArray), .int .i64 0] 51 (0, 0))) := ⟨by rw [← hq_]; exact (pk_ BK367)⟩; have n2_ : Aside0 (Below w.heap.size w w29) := ⟨by rw [← hq_]; exact (pb_ HB)⟩; clear BK366 BK367 HB hq_; have BK366 := n0_; have BK367 := n1_; have HB := n2_; clear n0_ n1_ n2_))))
      replace BK366 := Aside0.mk (blk_drew BK366.out)
      replace BK367 := Aside0.mk (blk_drew BK367.out)
      replace HB := Aside0.mk (below_drew1 HB.out)
      refine start_ (n := 10) (S := fun w' => w'.cell? ⟨gb366, 0, none⟩ = some (.slice (some ad378) l0_0.length c0_0) ∧ w'.cell? ⟨gb366, 1, none⟩ = some (.int .i64 a0_1)) (ds := []) #[false, false, false, false, false, false, false, false, false, false] (by kernel_rfl) rfl rfl ⟨cy_ BK366 0, cy_ BK366 1⟩ (fun hHeld => ?_); refine with_tabW midrangeref04_Extended.tab9 midrangeref04_Extended.bits9 (fun HT_ HW_ => ?_)
      generalize w29.drew = w31 at BK366 BK367 HB hHeld ⊢
      refine pu_ 1 37 HT_ ?_
      refine pu_ 2 38 HT_ ?_
      refine pu_ 3 39 HT_ ?_
      refine pu_ 4 40 HT_ ?_
      refine tk_ 0 36 HT_ HW_ hHeld rfl (Or.inl ⟨by rfl, by rintro w' ⟨s0, s1⟩; go_simp; with_reducible rfl⟩) ?_
      refine one_ (i := 5) (N := some 41) #[true, true, true, true, true, true, false, false, false, false] rfl rfl (one_of HT_.out (by kernel_rfl)) (by decide) (fun K hK => ?_)
      refine goes_ Tryd.func21 (by kernel_rfl) rfl #[.int .i64 (wrap64 (a2 * 32))] (by rfl) rfl rfl (by (try simp only [List.map_toArray, List.map_cons, List.map_nil]); first | done | rfl | (simp only [List.length_drop, List.length_take]; rfl)) ?_
      with_reducible refine (midrangeref04_Zeros.calls k (wrap64 (a2 * 32)) t387 _ A22.out).mono ?_
      rintro e w32 ⟨rfl, hb⟩
      refine ⟨_, rfl, ?_⟩
      replace BK366 := kb_ BK366 hb
      replace BK367 := kb_ BK367 hb
      replace HB := sb_ HB hb
      (try clear hb)
      (try clear hb2)
      (try clear hk)
      (try clear hi)
      refine hK.out _ _ ⟨cy_ BK366 0, cy_ BK366 1⟩ (fun hHeld => ?_)
      clear hK K
      refine nn_ 41 ?_
      refine pu_ 6 42 HT_ ?_
      refine one_ (i := 7) (N := some 43) #[true, true, true, true, true, true, true, true, false, false] rfl rfl (one_of HT_.out (by kernel_rfl)) (by decide) (fun K hK => ?_)
      refine goes_ Tryd.func71 (by kernel_rfl) rfl #[.agg #[.slice (some ad378) l0_0.length c0_0, .int .i64 a0_1], .int .i64 t368, .string (((rd_T46 l0_0 t368).f1) ++ t387)] (by rfl) rfl rfl (by (try simp only [List.map_toArray, List.map_cons, List.map_nil]); first | done | rfl | (simp only [List.length_drop, List.length_take]; rfl)) ?_
      with_reducible refine (midrangeref04_with.calls _ _ l0_0 a0_1 t368 (((rd_T46 l0_0 t368).f1) ++ t387) t388 t391 _ ?side1 ?side2 A24.out).mono ?_
      (case side1 => exact pc_ (Kd.C_below HR0_0.out HB.out))
      (case side2 => exact HC0_0.out)
      rintro e w33 ⟨v389, rfl, ho0, hb⟩
      refine ⟨_, rfl, ?_⟩
      have HO390 := Aside0.mk (Kd.R_lower ho0 (below_size (pb_ HB)))
      replace BK366 := kb_ BK366 hb
      replace BK367 := kb_ BK367 hb
      replace HB := sb_ HB hb
      (try clear hb)
      (try clear hb2)
      (try clear hk)
      (try clear hi)
      (try clear ho0)
      obtain ⟨Ao34, co34, eo34⟩ := Kd.R_slice HO390.out
      (first | subst eo34 | (injection eo34 with f1_ f2_ f3_; have f4_ := f1_.symm; have f5_ := f3_.symm; clear f1_ f2_ f3_; subst f4_; subst f5_))
      refine hK.out _ _ ⟨cy_ BK366 0, cy_ BK366 1⟩ (fun hHeld => ?_)
      clear hK K
      refine nn_ 43 ?_
      refine pu_ 8 44 HT_ ?_
      refine one_ (i := 9) (N := none) #[true, true, true, true, true, true, true, true, true, true] rfl rfl (one_of HT_.out (by kernel_rfl)) (by decide) (fun K hK => ?_)
      have hs35 : w33.cell? ⟨gb367, 0, none⟩ = some (.slice none 0 0) := (blk_cell BK367.out 0).trans rfl
      have hfs35 := blk_frozen BK367.out 0
      have hns35_0 := NB366_367.out
      have hms35_0 := NB367_366.out
      have hs36 : w33.cell? ⟨gb367, 1, none⟩ = some (.int .i64 0) := (blk_cell BK367.out 1).trans rfl
      have hfs36 := blk_frozen BK367.out 1
      have hns36_0 := NB366_367.out
      have hms36_0 := NB367_366.out
      have hs37 : w33.cell? ⟨gb367, 2, none⟩ = some (.int .i64 0) := (blk_cell BK367.out 2).trans rfl
      have hfs37 := blk_frozen BK367.out 2
      have hns37_0 := NB366_367.out
      have hms37_0 := NB367_366.out
      have hs38 : w33.cell? ⟨gb367, 3, none⟩ = some (.string (⟨#[]⟩ : ByteArray)) := (blk_cell BK367.out 3).trans rfl
      have hfs38 := blk_frozen BK367.out 3
      have hns38_0 := NB366_367.out
      have hms38_0 := NB367_366.out
      have hs39 : w33.cell? ⟨gb367, 4, none⟩ = some (.int .i64 0) := (blk_cell BK367.out 4).trans rfl
      have hfs39 := blk_frozen BK367.out 4
      have hns39_0 := NB366_367.out
      have hms39_0 := NB367_366.out
      refine skip_ (w1 := ?_) (by rfl) rfl ?_ ?_
      rotate_left
      ·
       go_simp
       rfl
      refine hK.out _ _ ⟨((cell_far (p := ⟨gb367, _, none⟩) NB366_367.out _).trans (((cell_far (p := ⟨gb367, _, none⟩) NB366_367.out _).trans (((cell_far (p := ⟨gb367, _, none⟩) NB366_367.out _).trans (((cell_far (p := ⟨gb367, _, none⟩) NB366_367.out _).trans (((cell_far (p := ⟨gb367, _, none⟩) NB366_367.out _).trans (hHeld.1)))))))))), ((cell_far (p := ⟨gb367, _, none⟩) NB366_367.out _).trans (((cell_far (p := ⟨gb367, _, none⟩) NB366_367.out _).trans (((cell_far (p := ⟨gb367, _, none⟩) NB366_367.out _).trans (((cell_far (p := ⟨gb367, _, none⟩) NB366_367.out _).trans (((cell_far (p := ⟨gb367, _, none⟩) NB366_367.out _).trans (hHeld.2))))))))))⟩ (fun hHeld => ?_)
      clear hK K
      refine done_ (done_of HT_.out (by kernel_rfl)) ?_
      try go_wp2
      refine bodyPost_ret (results_cell_row rfl _ _ gb367 51 #[.slice Ao34 t388.length co34, .int .i64 t391, .int .i64 0, .string (⟨#[]⟩ : ByteArray), .int .i64 0] (0, 0) _ rfl (bq_ BK367) Tryd.underlying51 rfl (by kernel_rfl)) rfl ?_
      exact ⟨_, er_, by (with_reducible repeat (first | apply Kd.R_alloc | apply Kd.R_drewN | apply Kd.R_drew)); exact Kd.R_mono (Kd.R_far (p := ⟨gb367, 4, none⟩) (Kd.R_far (p := ⟨gb367, 3, none⟩) (Kd.R_far (p := ⟨gb367, 2, none⟩) (Kd.R_far (p := ⟨gb367, 1, none⟩) (Kd.R_far (p := ⟨gb367, 0, none⟩) (Kd.R_types HO390.out BK367.out (by decide)) (fun _ hk => hk.2) (.slice Ao34 t388.length co34)) (fun _ hk => hk.2) (.int .i64 t391)) (fun _ hk => hk.2) (.int .i64 0)) (fun _ hk => hk.2) (.string (⟨#[]⟩ : ByteArray))) (fun _ hk => hk.2) (.int .i64 0)) (fun _ hk => trivial), pb_ HB⟩
     rw [if_neg c23] at H
     exact absurd H (by simp)
    rw [if_neg c9] at H
    exact absurd H (by simp)
   rw [if_neg c8] at H
   exact absurd H (by simp)
  replace c7 := Bool.eq_false_iff.mpr c7
  subst c7
  have H1 : ((midrangeref04_failed.f 3).bind fun bt371 => (some (bt371.1, bt371.2.1, bt371.2.2.1, bt371.2.2.2.1, bt371.2.2.2.2))) = some (r1, r2, r3, r4, r5) := by rw [if_neg (show ¬ (false = true) by decide)] at H; exact H
  clear H
  have H := H1
  clear H1
  replace H := Option.bind_eq_some_iff.mp H
  obtain ⟨⟨t371, t374, t375, t376, t377⟩, A400, H⟩ := H
  replace H : (some (t371, t374, t375, t376, t377)) = some (r1, r2, r3, r4, r5) := H
  have A40 := Aside0.mk A400
  clear A400
  simp only [Option.some.injEq, Prod.mk.injEq] at H
  obtain ⟨rfl, rfl, rfl, rfl, rfl⟩ := H
  go_enter Tryd.func53, Tryd.ntmps53
  go_wp2_with (first | ((with_reducible refine gate_dst (N := 3) rfl ?_); refine bx_ 3 #[.slice A0_0 l0_0.length c0_0, .int .i64 a0_1] 24 ?_; intro gb366 hg w41 hbox hb; have BK366 := Aside0.mk (hbox); have GW366 := gw_ hg HB; have GE366 := gw_ hg HB; replace HB := sb_ HB hb; clear hb hbox hg) | ((with_reducible refine gate_dst (N := 6) rfl ?_); refine bx_ 6 #[.slice none 0 0, .int .i64 0, .int .i64 0, .string (⟨#[]⟩ : ByteArray), .int .i64 0] 51 ?_; intro gb367 hg w42 hbox hb; have BK367 := Aside0.mk (hbox); have GW367 := gw_ hg HB; have GE367 := gw_ hg HB; replace HB := sb_ HB hb; have NB366_367 := nl_ hg BK366; have NB367_366 := ng_ hg BK366; replace BK366 := kb_ BK366 hb; clear hb hbox hg; have hnb43 := NB366_367.out; have hnc43 := NB367_366.out; have hcz44_0 := cz_ BK366 0 (.slice A0_0 l0_0.length c0_0); have hcz44_1 := cz_ BK366 1 (.int .i64 a0_1); have hfz44_0 := blk_frozen BK366.out 0; have hfz44_1 := blk_frozen BK366.out 1) | ((with_reducible refine gate_callee (f := 70) rfl ?_); refine gl_ 13 Tryd.func70 #[.agg #[.slice A0_0 l0_0.length c0_0, .int .i64 a0_1], .int .i64 a1] ?_; (with_reducible refine (midrangeref04_known.calls k _ _ l0_0 a0_1 a1 t368 t369 _ ?side1 ?side2 A4.out).mono ?_); (case side1 => exact pc_ (Kd.C_below HR0_0.out HB.out)); (case side2 => exact HC0_0.out); rintro e w45 ⟨rfl, hb⟩; refine ⟨_, rfl, ?_⟩; replace BK366 := kb_ BK366 hb; replace BK367 := kb_ BK367 hb; replace HB := sb_ HB hb; (try clear hb); (try clear hb2); (try clear hk); (try clear hi)) | ((with_reducible refine gate_callee (f := 68) rfl ?_); refine gl_ 21 Tryd.func68 #[.int .i64 a2, .int .i64 1, .int .i64 8] ?_; (with_reducible refine (midrangebase_Within.calls a2 1 8 false _ A6.out).mono ?_); rintro e w' ⟨rfl, ⟨nd, rfl⟩⟩; refine ⟨_, rfl, ?_⟩; (try (rw [drewN_self w45]; generalize hq_ : World.drewN w45 _ = w45; have n0_ : Aside0 (w45.heap[gb366]? = some (.cells #[.slice A0_0 l0_0.length c0_0, .int .i64 a0_1] 24 (0, 0))) := ⟨by rw [← hq_]; exact (pk_ BK366)⟩; have n1_ : Aside0 (w45.heap[gb367]? = some (.cells #[.slice none 0 0, .int .i64 0, .int .i64 0, .string (⟨#[]⟩ : ByteArray), .int .i64 0] 51 (0, 0))) := ⟨by rw [← hq_]; exact (pk_ BK367)⟩; have n2_ : Aside0 (Below w.heap.size w w45) := ⟨by rw [← hq_]; exact (pb_ HB)⟩; clear BK366 BK367 HB hq_; have BK366 := n0_; have BK367 := n1_; have HB := n2_; clear n0_ n1_ n2_))) | ((with_reducible refine gate_callee (f := 38) rfl ?_); refine gl_ 23 Tryd.func38 #[.int .i64 3] ?_; (with_reducible refine (midrangeref04_failed.calls 3 t371 t374 t375 t376 t377 _ A40.out).mono ?_); rintro e w46 ⟨v372, rfl, ho0, hb⟩; refine ⟨_, rfl, ?_⟩; have HO373 := Aside0.mk (Kd.R_lower ho0 (below_size (pb_ HB))); replace BK366 := kb_ BK366 hb; replace BK367 := kb_ BK367 hb; replace HB := sb_ HB hb; (try clear hb); (try clear hb2); (try clear hk); (try clear hi); (try clear ho0); obtain ⟨Ao47, co47, eo47⟩ := Kd.R_slice HO373.out; subst eo47; have hcz48_0 := cz_ BK367 0 (.slice none 0 0); have hcz48_1 := cz_ BK367 1 (.int .i64 0); have hcz48_2 := cz_ BK367 2 (.int .i64 0); have hcz48_3 := cz_ BK367 3 (.string (⟨#[]⟩ : ByteArray)); have hcz48_4 := cz_ BK367 4 (.int .i64 0); have hfz48_0 := blk_frozen BK367.out 0; have hfz48_1 := blk_frozen BK367.out 1; have hfz48_2 := blk_frozen BK367.out 2; have hfz48_3 := blk_frozen BK367.out 3; have hfz48_4 := blk_frozen BK367.out 4))
  refine bodyPost_ret (results_cell_row rfl _ _ gb367 51 #[.slice Ao47 t371.length co47, .int .i64 t374, .int .i64 t375, .string t376, .int .i64 t377] (0, 0) _ rfl (bq_ BK367) Tryd.underlying51 rfl (by kernel_rfl)) rfl ?_
  exact ⟨_, er_, by (with_reducible repeat (first | apply Kd.R_alloc | apply Kd.R_drewN | apply Kd.R_drew)); exact Kd.R_mono (Kd.R_far (p := ⟨gb367, 4, none⟩) (Kd.R_far (p := ⟨gb367, 3, none⟩) (Kd.R_far (p := ⟨gb367, 2, none⟩) (Kd.R_far (p := ⟨gb367, 1, none⟩) (Kd.R_far (p := ⟨gb367, 0, none⟩) (Kd.R_types HO373.out BK367.out (by decide)) (fun _ hk => hk.2) (.slice Ao47 t371.length co47)) (fun _ hk => hk.2) (.int .i64 t374)) (fun _ hk => hk.2) (.int .i64 t375)) (fun _ hk => hk.2) (.string t376)) (fun _ hk => hk.2) (.int .i64 t377)) (fun _ hk => trivial), pb_ HB⟩
 rw [if_neg c5] at H
 have c5b0 : (t369 == 0) = false := beq_eq_false_iff_ne.mpr c5
 have c5b1 : (t369 != 0) = true := bne_iff_ne.mpr c5
 simp only [Option.some.injEq, Prod.mk.injEq] at H
 obtain ⟨rfl, rfl, rfl, rfl, rfl⟩ := H
 go_enter Tryd.func53, Tryd.ntmps53
 go_wp2_with (first | ((with_reducible refine gate_dst (N := 3) rfl ?_); refine bx_ 3 #[.slice A0_0 l0_0.length c0_0, .int .i64 a0_1] 24 ?_; intro gb366 hg w49 hbox hb; have BK366 := Aside0.mk (hbox); have GW366 := gw_ hg HB; have GE366 := gw_ hg HB; replace HB := sb_ HB hb; clear hb hbox hg) | ((with_reducible refine gate_dst (N := 6) rfl ?_); refine bx_ 6 #[.slice none 0 0, .int .i64 0, .int .i64 0, .string (⟨#[]⟩ : ByteArray), .int .i64 0] 51 ?_; intro gb367 hg w50 hbox hb; have BK367 := Aside0.mk (hbox); have GW367 := gw_ hg HB; have GE367 := gw_ hg HB; replace HB := sb_ HB hb; have NB366_367 := nl_ hg BK366; have NB367_366 := ng_ hg BK366; replace BK366 := kb_ BK366 hb; clear hb hbox hg; have hnb51 := NB366_367.out; have hnc51 := NB367_366.out; have hcz52_0 := cz_ BK366 0 (.slice A0_0 l0_0.length c0_0); have hcz52_1 := cz_ BK366 1 (.int .i64 a0_1); have hfz52_0 := blk_frozen BK366.out 0; have hfz52_1 := blk_frozen BK366.out 1) | ((with_reducible refine gate_callee (f := 70) rfl ?_); refine gl_ 13 Tryd.func70 #[.agg #[.slice A0_0 l0_0.length c0_0, .int .i64 a0_1], .int .i64 a1] ?_; (with_reducible refine (midrangeref04_known.calls k _ _ l0_0 a0_1 a1 t368 t369 _ ?side1 ?side2 A4.out).mono ?_); (case side1 => exact pc_ (Kd.C_below HR0_0.out HB.out)); (case side2 => exact HC0_0.out); rintro e w53 ⟨rfl, hb⟩; refine ⟨_, rfl, ?_⟩; replace BK366 := kb_ BK366 hb; replace BK367 := kb_ BK367 hb; replace HB := sb_ HB hb; (try clear hb); (try clear hb2); (try clear hk); (try clear hi); have hcz54_0 := cz_ BK367 0 (.slice none 0 0); have hcz54_1 := cz_ BK367 1 (.int .i64 0); have hcz54_2 := cz_ BK367 2 (.int .i64 0); have hcz54_3 := cz_ BK367 3 (.string (⟨#[]⟩ : ByteArray)); have hcz54_4 := cz_ BK367 4 (.int .i64 0); have hfz54_0 := blk_frozen BK367.out 0; have hfz54_1 := blk_frozen BK367.out 1; have hfz54_2 := blk_frozen BK367.out 2; have hfz54_3 := blk_frozen BK367.out 3; have hfz54_4 := blk_frozen BK367.out 4))
 refine bodyPost_ret (results_cell_row rfl _ _ gb367 51 #[.slice none 0 0, .int .i64 0, .int .i64 0, .string (⟨#[]⟩ : ByteArray), .int .i64 t369] (0, 0) _ rfl (bq_ BK367) Tryd.underlying51 rfl (by kernel_rfl)) rfl ?_
 exact ⟨_, er_, by first | exact Kd.R_nil _ _ _ _ _ | exact Kd.N_nil _ _ _ _ _ | exact Kd.V_nil _ _ _ _ _ | exact Kd.Q_nil _ _ _ _ _ | exact Kd.S_nil _ _ _ _ _, pb_ HB⟩
end Go.Proofs.YtoabahlaicgmjaaDoor.X
end
