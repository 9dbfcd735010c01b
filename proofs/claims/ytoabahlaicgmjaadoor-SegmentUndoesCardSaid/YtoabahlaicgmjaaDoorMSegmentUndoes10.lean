-- Texts of this claim joined by merge.py, a program of its author; what this claim does not reach is left out.
import Derived.Test.YtoabahlaicgmjaaDoorMSegmentUndoes9
section
namespace Go.Proofs.YtoabahlaicgmjaaDoor.X
open Go.Proofs.YtoabahlaicgmjaaDoor.XW Go.Proofs.YtoabahlaicgmjaaDoor.XS
open Go.RowKit Go.Proofs.YtoabahlaicgmjaaDoorW.PrintWords Go.Proofs.YtoabahlaicgmjaaDoorW.PrintLast Go.Proofs.YtoabahlaicgmjaaDoorW.PrintMore
attribute [local go_sem] max2_int min2_int max_two min_two max_three min_three max_four min_four   -- for this text's walks alone
set_option linter.unusedVariables false
set_option linter.unusedSimpArgs false
def midrangeref04_Truncated.f (k : Nat) (l0_0 : List (S46)) (a0_1 : Int) (a1 : Int) (a2 : Int) : Option ((List (S46)) × Int × Int × ByteArray × Int) := (midrangeref04_known.f k l0_0 a0_1 a1).bind fun bt394 => (if bt394.2 = 0 then (if 0 ≤ bt394.1 then (if bt394.1 < (l0_0.length : Int) then ((midrangeref04_Pages.f ((rd_T46 l0_0 bt394.1).f1)).bind fun t397 => ((midrangebase_Within.f a2 1 t397).bind fun t398 => (if t398 = true then (if 0 ≤ (wrap64 (a2 * 32)) then (if (wrap64 (a2 * 32)) ≤ (((rd_T46 l0_0 bt394.1).f1).size : Int) then ((midrangeref04_with.f l0_0 a0_1 bt394.1 (((rd_T46 l0_0 bt394.1).f1).extract 0 ((wrap64 (a2 * 32)) : Int).toNat)).bind fun bt399 => (some (bt399.1, bt399.2, 0, (⟨#[]⟩ : ByteArray), 0))) else (none)) else (none)) else ((midrangeref04_failed.f 3).bind fun bt403 => (some (bt403.1, bt403.2.1, bt403.2.2.1, bt403.2.2.2.1, bt403.2.2.2.2)))))) else (none)) else (none)) else (some (([] : List (S46)), 0, 0, (⟨#[]⟩ : ByteArray), bt394.2)))
def midrangeref04_Truncated.T7 : Bool × List (List Nat × List Nat) := (true, [([], []), ([], []), ([], []), ([], []), ([3], [3]), ([2, 4], [2, 4]), ([0, 1, 5], [0, 1, 5]), ([6], [6]), ([7, 6, 0, 1, 2, 3, 4, 5, 6, 7], [7])])
def midrangeref04_Truncated.B7 : List Nat := [0, 0, 0, 0, 8, 28, 63, 127, 255]
theorem midrangeref04_Truncated.tab7 : rtab .any (opsOf Tryd.f54 7) = midrangeref04_Truncated.T7 := by kernel_rfl
theorem midrangeref04_Truncated.bits7 : waitsOk midrangeref04_Truncated.T7.2 midrangeref04_Truncated.B7 = true := by kernel_rfl
set_option maxHeartbeats 8000000 in
set_option maxRecDepth 100000 in
theorem midrangeref04_Truncated.calls (k : Nat) (A0_0 : Option Addr) (c0_0 : Nat) (l0_0 : List (S46)) (a0_1 : Int) (a1 : Int) (a2 : Int) (r1 : List (S46)) (r2 : Int) (r3 : Int) (r4 : ByteArray) (r5 : Int) (w : World) (hr0_0 : Kd.C k46 w A0_0 l0_0.length l0_0) (hc0_0 : l0_0.length ≤ c0_0) (h : midrangeref04_Truncated.f k l0_0 a0_1 a1 a2 = some (r1, r2, r3, r4, r5)) :
  Calls Tryd.prog 54 #[.agg #[.slice A0_0 l0_0.length c0_0, .int .i64 a0_1], .int .i64 a1, .int .i64 a2] w fun e w' => ∃ v0_ : Value, e = .returned (.agg #[v0_, .int .i64 r2, .int .i64 r3, .string r4, .int .i64 r5]) ∧ Kd.R k46 46 w' w.heap.size (fun _ => True) v0_ r1 ∧ Below w.heap.size w w' := by
 have hu24 := Tryd.underlying24
 have hu51 := Tryd.underlying51
 have HR0_0 := Aside0.mk hr0_0
 have HC0_0 := Aside0.mk hc0_0
 clear hr0_0 hc0_0
 have HB := Aside0.mk (Below.refl w.heap.size w)
 have H : ((midrangeref04_known.f k l0_0 a0_1 a1).bind fun bt394 => (if bt394.2 = 0 then (if 0 ≤ bt394.1 then (if bt394.1 < (l0_0.length : Int) then ((midrangeref04_Pages.f ((rd_T46 l0_0 bt394.1).f1)).bind fun t397 => ((midrangebase_Within.f a2 1 t397).bind fun t398 => (if t398 = true then (if 0 ≤ (wrap64 (a2 * 32)) then (if (wrap64 (a2 * 32)) ≤ (((rd_T46 l0_0 bt394.1).f1).size : Int) then ((midrangeref04_with.f l0_0 a0_1 bt394.1 (((rd_T46 l0_0 bt394.1).f1).extract 0 ((wrap64 (a2 * 32)) : Int).toNat)).bind fun bt399 => (some (bt399.1, bt399.2, 0, (⟨#[]⟩ : ByteArray), 0))) else (none)) else (none)) else ((midrangeref04_failed.f 3).bind fun bt403 => (some (bt403.1, bt403.2.1, bt403.2.2.1, bt403.2.2.2.1, bt403.2.2.2.2)))))) else (none)) else (none)) else (some (([] : List (S46)), 0, 0, (⟨#[]⟩ : ByteArray), bt394.2)))) = some (r1, r2, r3, r4, r5) := h
 clear h
 replace H := Option.bind_eq_some_iff.mp H
 obtain ⟨⟨t394, t395⟩, A40, H⟩ := H
 replace H : (if t395 = 0 then (if 0 ≤ t394 then (if t394 < (l0_0.length : Int) then ((midrangeref04_Pages.f ((rd_T46 l0_0 t394).f1)).bind fun t397 => ((midrangebase_Within.f a2 1 t397).bind fun t398 => (if t398 = true then (if 0 ≤ (wrap64 (a2 * 32)) then (if (wrap64 (a2 * 32)) ≤ (((rd_T46 l0_0 t394).f1).size : Int) then ((midrangeref04_with.f l0_0 a0_1 t394 (((rd_T46 l0_0 t394).f1).extract 0 ((wrap64 (a2 * 32)) : Int).toNat)).bind fun bt399 => (some (bt399.1, bt399.2, 0, (⟨#[]⟩ : ByteArray), 0))) else (none)) else (none)) else ((midrangeref04_failed.f 3).bind fun bt403 => (some (bt403.1, bt403.2.1, bt403.2.2.1, bt403.2.2.2.1, bt403.2.2.2.2)))))) else (none)) else (none)) else (some (([] : List (S46)), 0, 0, (⟨#[]⟩ : ByteArray), t395))) = some (r1, r2, r3, r4, r5) := H
 have A4 := Aside0.mk A40
 clear A40
 by_cases c5 : t395 = 0
 ·
  rw [if_pos c5] at H
  have c5b0 : (t395 == 0) = true := beq_iff_eq.mpr c5
  have c5b1 : (t395 != 0) = false := bne_eq_false_iff_eq.mpr c5
  clear c5
  by_cases c6 : 0 ≤ t394
  ·
   rw [if_pos c6] at H
   have c6b0 : decide (0 ≤ t394) = true := decide_eq_true c6
   clear c6
   by_cases c7 : t394 < (l0_0.length : Int)
   ·
    rw [if_pos c7] at H
    have c7b0 : decide (t394 < (l0_0.length : Int)) = true := decide_eq_true c7
    clear c7
    replace H := Option.bind_eq_some_iff.mp H
    obtain ⟨t397, A80, H⟩ := H
    replace H : ((midrangebase_Within.f a2 1 t397).bind fun t398 => (if t398 = true then (if 0 ≤ (wrap64 (a2 * 32)) then (if (wrap64 (a2 * 32)) ≤ (((rd_T46 l0_0 t394).f1).size : Int) then ((midrangeref04_with.f l0_0 a0_1 t394 (((rd_T46 l0_0 t394).f1).extract 0 ((wrap64 (a2 * 32)) : Int).toNat)).bind fun bt399 => (some (bt399.1, bt399.2, 0, (⟨#[]⟩ : ByteArray), 0))) else (none)) else (none)) else ((midrangeref04_failed.f 3).bind fun bt403 => (some (bt403.1, bt403.2.1, bt403.2.2.1, bt403.2.2.2.1, bt403.2.2.2.2))))) = some (r1, r2, r3, r4, r5) := H
    have A8 := Aside0.mk A80
    clear A80
    replace H := Option.bind_eq_some_iff.mp H
    obtain ⟨t398, A90, H⟩ := H
    replace H : (if t398 = true then (if 0 ≤ (wrap64 (a2 * 32)) then (if (wrap64 (a2 * 32)) ≤ (((rd_T46 l0_0 t394).f1).size : Int) then ((midrangeref04_with.f l0_0 a0_1 t394 (((rd_T46 l0_0 t394).f1).extract 0 ((wrap64 (a2 * 32)) : Int).toNat)).bind fun bt399 => (some (bt399.1, bt399.2, 0, (⟨#[]⟩ : ByteArray), 0))) else (none)) else (none)) else ((midrangeref04_failed.f 3).bind fun bt403 => (some (bt403.1, bt403.2.1, bt403.2.2.1, bt403.2.2.2.1, bt403.2.2.2.2)))) = some (r1, r2, r3, r4, r5) := H
    have A9 := Aside0.mk A90
    clear A90
    by_cases c10 : t398 = true
    ·
     subst c10
     have H1 : (if 0 ≤ (wrap64 (a2 * 32)) then (if (wrap64 (a2 * 32)) ≤ (((rd_T46 l0_0 t394).f1).size : Int) then ((midrangeref04_with.f l0_0 a0_1 t394 (((rd_T46 l0_0 t394).f1).extract 0 ((wrap64 (a2 * 32)) : Int).toNat)).bind fun bt399 => (some (bt399.1, bt399.2, 0, (⟨#[]⟩ : ByteArray), 0))) else (none)) else (none)) = some (r1, r2, r3, r4, r5) := by rw [if_pos rfl] at H; exact H
     clear H
     have H := H1
     clear H1
     obtain ⟨ji11, hji11⟩ : ∃ j_ : Int, (wrap64 (a2 * 32)) = j_ := ⟨_, rfl⟩
     replace H : (if 0 ≤ (ji11) then (if (ji11) ≤ (((rd_T46 l0_0 t394).f1).size : Int) then ((midrangeref04_with.f l0_0 a0_1 t394 (((rd_T46 l0_0 t394).f1).extract 0 ((ji11) : Int).toNat)).bind fun bt399 => (some (bt399.1, bt399.2, 0, (⟨#[]⟩ : ByteArray), 0))) else (none)) else (none)) = some (r1, r2, r3, r4, r5) := by first | (rw [hji11] at H; exact H) | (simp only [hji11] at H ⊢; exact H)
     (try rw [hji11] at A4)
     (try rw [hji11] at A8)
     (try rw [hji11] at A9)
     have hji11w : (IntKind.i64.wrap (a2 * 32)) = ji11 := (i64_w _).trans hji11
     by_cases c12 : 0 ≤ (ji11)
     ·
      rw [if_pos c12] at H
      have c12b0 := eq_true c12
      have c12b1 : decide (0 ≤ (ji11)) = true := decide_eq_true c12
      clear c12
      by_cases c13 : (ji11) ≤ (((rd_T46 l0_0 t394).f1).size : Int)
      ·
       rw [if_pos c13] at H
       have c13b0 := eq_true c13
       have c13b1 : decide ((ji11) ≤ (((rd_T46 l0_0 t394).f1).size : Int)) = true := decide_eq_true c13
       clear c13
       replace H := Option.bind_eq_some_iff.mp H
       obtain ⟨⟨t399, t402⟩, A140, H⟩ := H
       replace H : (some (t399, t402, 0, (⟨#[]⟩ : ByteArray), 0)) = some (r1, r2, r3, r4, r5) := H
       have A14 := Aside0.mk A140
       clear A140
       simp only [Option.some.injEq, Prod.mk.injEq] at H
       obtain ⟨rfl, rfl, rfl, rfl, rfl⟩ := H
       go_enter Tryd.func54, Tryd.ntmps54
       try go_wp2_with (first | ((with_reducible refine gate_dst (N := 3) rfl ?_); refine bx_ 3 #[.slice A0_0 l0_0.length c0_0, .int .i64 a0_1] 24 ?_; intro gb392 hg w15 hbox hb; have BK392 := Aside0.mk (hbox); have GW392 := gw_ hg HB; have GE392 := gw_ hg HB; replace HB := sb_ HB hb; clear hb hbox hg) | ((with_reducible refine gate_dst (N := 6) rfl ?_); refine bx_ 6 #[.slice none 0 0, .int .i64 0, .int .i64 0, .string (⟨#[]⟩ : ByteArray), .int .i64 0] 51 ?_; intro gb393 hg w16 hbox hb; have BK393 := Aside0.mk (hbox); have GW393 := gw_ hg HB; have GE393 := gw_ hg HB; replace HB := sb_ HB hb; have NB392_393 := nl_ hg BK392; have NB393_392 := ng_ hg BK392; replace BK392 := kb_ BK392 hb; clear hb hbox hg; have hnb17 := NB392_393.out; have hnc17 := NB393_392.out; have hcz18_0 := cz_ BK392 0 (.slice A0_0 l0_0.length c0_0); have hcz18_1 := cz_ BK392 1 (.int .i64 a0_1); have hfz18_0 := blk_frozen BK392.out 0; have hfz18_1 := blk_frozen BK392.out 1) | ((with_reducible refine gate_callee (f := 70) rfl ?_); refine gl_ 13 Tryd.func70 #[.agg #[.slice A0_0 l0_0.length c0_0, .int .i64 a0_1], .int .i64 a1] ?_; (with_reducible refine (midrangeref04_known.calls k _ _ l0_0 a0_1 a1 t394 t395 _ ?side1 ?side2 A4.out).mono ?_); (case side1 => exact pc_ (Kd.C_below HR0_0.out HB.out)); (case side2 => exact HC0_0.out); rintro e w19 ⟨rfl, hb⟩; refine ⟨_, rfl, ?_⟩; replace BK392 := kb_ BK392 hb; replace BK393 := kb_ BK393 hb; replace HB := sb_ HB hb; (try clear hb); (try clear hb2); (try clear hk); (try clear hi); have hcz20_0 := cz_ BK392 0 (.slice A0_0 l0_0.length c0_0); have hcz20_1 := cz_ BK392 1 (.int .i64 a0_1); have hfz20_0 := blk_frozen BK392.out 0; have hfz20_1 := blk_frozen BK392.out 1; have p396 : 0 ≤ (t394 : Int) := ct_; have q396 : t394 < (l0_0.length : Int) := ct_; obtain ⟨ad396, e396, hx396_0, hx396_1⟩ := at_T46 HR0_0.out t394 p396 q396; cases e396; replace hx396_0 := pw_cell_below HB.out hx396_0; replace hx396_1 := pw_cell_below HB.out hx396_1; replace p396 := eq_true p396; replace q396 := eq_true q396) | ((with_reducible refine gate_callee (f := 20) rfl ?_); refine gl_ 28 Tryd.func20 #[.string ((rd_T46 l0_0 t394).f1)] ?_; (with_reducible refine (midrangeref04_Pages.calls ((rd_T46 l0_0 t394).f1) t397 _ A8.out).mono ?_); rintro e w' ⟨rfl, ⟨nd, rfl⟩⟩; refine ⟨_, rfl, ?_⟩; (try (rw [drewN_self w19]; generalize hq_ : World.drewN w19 _ = w19; have n0_ : Aside0 (w19.heap[gb392]? = some (.cells #[.slice (some ad396) l0_0.length c0_0, .int .i64 a0_1] 24 (0, 0))) := ⟨by rw [← hq_]; exact (pk_ BK392)⟩; have n1_ : Aside0 (w19.heap[gb393]? = some (.cells #[.slice none 0 0, .int .i64 0, .int .i64 0, .string (⟨#[]⟩ : ByteArray), .int .i64 0] 51 (0, 0))) := ⟨by rw [← hq_]; exact (pk_ BK393)⟩; have n2_ : Aside0 (Below w.heap.size w w19) := ⟨by rw [← hq_]; exact (pb_ HB)⟩; clear BK392 BK393 HB hq_; have BK392 := n0_; have BK393 := n1_; have HB := n2_; clear n0_ n1_ n2_))) | ((with_reducible refine gate_callee (f := 68) rfl ?_); refine gl_ 29 Tryd.func68 #[.int .i64 a2, .int .i64 1, .int .i64 t397] ?_; (with_reducible refine (midrangebase_Within.calls a2 1 t397 true _ A9.out).mono ?_); rintro e w' ⟨rfl, ⟨nd, rfl⟩⟩; refine ⟨_, rfl, ?_⟩; (try (rw [drewN_self w19]; generalize hq_ : World.drewN w19 _ = w19; have n0_ : Aside0 (w19.heap[gb392]? = some (.cells #[.slice (some ad396) l0_0.length c0_0, .int .i64 a0_1] 24 (0, 0))) := ⟨by rw [← hq_]; exact (pk_ BK392)⟩; have n1_ : Aside0 (w19.heap[gb393]? = some (.cells #[.slice none 0 0, .int .i64 0, .int .i64 0, .string (⟨#[]⟩ : ByteArray), .int .i64 0] 51 (0, 0))) := ⟨by rw [← hq_]; exact (pk_ BK393)⟩; have n2_ : Aside0 (Below w.heap.size w w19) := ⟨by rw [← hq_]; exact (pb_ HB)⟩; clear BK392 BK393 HB hq_; have BK392 := n0_; have BK393 := n1_; have HB := n2_; clear n0_ n1_ n2_))))
       replace BK392 := Aside0.mk (blk_drew BK392.out)
       replace BK393 := Aside0.mk (blk_drew BK393.out)
       replace HB := Aside0.mk (below_drew1 HB.out)
       refine start_ (n := 9) (S := fun w' => w'.cell? ⟨gb392, 0, none⟩ = some (.slice (some ad396) l0_0.length c0_0) ∧ w'.cell? ⟨gb392, 1, none⟩ = some (.int .i64 a0_1)) (ds := []) #[false, false, false, false, false, false, false, false, false] (by kernel_rfl) rfl rfl ⟨cy_ BK392 0, cy_ BK392 1⟩ (fun hHeld => ?_); refine with_tabW midrangeref04_Truncated.tab7 midrangeref04_Truncated.bits7 (fun HT_ HW_ => ?_)
       generalize w19.drew = w21 at BK392 BK393 HB hHeld ⊢
       refine pu_ 1 33 HT_ ?_
       refine pu_ 2 34 HT_ ?_
       refine pu_ 3 35 HT_ ?_
       refine pu_ 4 36 HT_ ?_
       refine pu_ 5 37 HT_ ?_
       refine tk_ 0 32 HT_ HW_ hHeld rfl (Or.inl ⟨by rfl, by rintro w' ⟨s0, s1⟩; go_simp; with_reducible rfl⟩) ?_
       refine one_ (i := 6) (N := some 38) #[true, true, true, true, true, true, true, false, false] rfl rfl (one_of HT_.out (by kernel_rfl)) (by decide) (fun K hK => ?_)
       refine goes_ Tryd.func71 (by kernel_rfl) rfl #[.agg #[.slice (some ad396) l0_0.length c0_0, .int .i64 a0_1], .int .i64 t394, .string (((rd_T46 l0_0 t394).f1).extract 0 ((ji11) : Int).toNat)] (by rfl) rfl rfl (by (try simp only [List.map_toArray, List.map_cons, List.map_nil]); first | done | (simp only [hji11]; rfl) | rfl | (simp only [List.length_drop, List.length_take]; rfl)) ?_
       with_reducible refine (midrangeref04_with.calls _ _ l0_0 a0_1 t394 (((rd_T46 l0_0 t394).f1).extract 0 ((ji11) : Int).toNat) t399 t402 _ ?side1 ?side2 A14.out).mono ?_
       (case side1 => exact pc_ (Kd.C_below HR0_0.out HB.out))
       (case side2 => exact HC0_0.out)
       rintro e w22 ⟨v400, rfl, ho0, hb⟩
       refine ⟨_, rfl, ?_⟩
       have HO401 := Aside0.mk (Kd.R_lower ho0 (below_size (pb_ HB)))
       replace BK392 := kb_ BK392 hb
       replace BK393 := kb_ BK393 hb
       replace HB := sb_ HB hb
       (try clear hb)
       (try clear hb2)
       (try clear hk)
       (try clear hi)
       (try clear ho0)
       obtain ⟨Ao23, co23, eo23⟩ := Kd.R_slice HO401.out
       (first | subst eo23 | (injection eo23 with f1_ f2_ f3_; have f4_ := f1_.symm; have f5_ := f3_.symm; clear f1_ f2_ f3_; subst f4_; subst f5_))
       refine hK.out _ _ ⟨cy_ BK392 0, cy_ BK392 1⟩ (fun hHeld => ?_)
       clear hK K
       refine nn_ 38 ?_
       refine pu_ 7 39 HT_ ?_
       refine one_ (i := 8) (N := none) #[true, true, true, true, true, true, true, true, true] rfl rfl (one_of HT_.out (by kernel_rfl)) (by decide) (fun K hK => ?_)
       have hs24 : w22.cell? ⟨gb393, 0, none⟩ = some (.slice none 0 0) := (blk_cell BK393.out 0).trans rfl
       have hfs24 := blk_frozen BK393.out 0
       have hns24_0 := NB392_393.out
       have hms24_0 := NB393_392.out
       have hs25 : w22.cell? ⟨gb393, 1, none⟩ = some (.int .i64 0) := (blk_cell BK393.out 1).trans rfl
       have hfs25 := blk_frozen BK393.out 1
       have hns25_0 := NB392_393.out
       have hms25_0 := NB393_392.out
       have hs26 : w22.cell? ⟨gb393, 2, none⟩ = some (.int .i64 0) := (blk_cell BK393.out 2).trans rfl
       have hfs26 := blk_frozen BK393.out 2
       have hns26_0 := NB392_393.out
       have hms26_0 := NB393_392.out
       have hs27 : w22.cell? ⟨gb393, 3, none⟩ = some (.string (⟨#[]⟩ : ByteArray)) := (blk_cell BK393.out 3).trans rfl
       have hfs27 := blk_frozen BK393.out 3
       have hns27_0 := NB392_393.out
       have hms27_0 := NB393_392.out
       have hs28 : w22.cell? ⟨gb393, 4, none⟩ = some (.int .i64 0) := (blk_cell BK393.out 4).trans rfl
       have hfs28 := blk_frozen BK393.out 4
       have hns28_0 := NB392_393.out
       have hms28_0 := NB393_392.out
       refine skip_ (w1 := ?_) (by rfl) rfl ?_ ?_
       rotate_left
       ·
        go_simp
        rfl
       refine hK.out _ _ ⟨((cell_far (p := ⟨gb393, _, none⟩) NB392_393.out _).trans (((cell_far (p := ⟨gb393, _, none⟩) NB392_393.out _).trans (((cell_far (p := ⟨gb393, _, none⟩) NB392_393.out _).trans (((cell_far (p := ⟨gb393, _, none⟩) NB392_393.out _).trans (((cell_far (p := ⟨gb393, _, none⟩) NB392_393.out _).trans (hHeld.1)))))))))), ((cell_far (p := ⟨gb393, _, none⟩) NB392_393.out _).trans (((cell_far (p := ⟨gb393, _, none⟩) NB392_393.out _).trans (((cell_far (p := ⟨gb393, _, none⟩) NB392_393.out _).trans (((cell_far (p := ⟨gb393, _, none⟩) NB392_393.out _).trans (((cell_far (p := ⟨gb393, _, none⟩) NB392_393.out _).trans (hHeld.2))))))))))⟩ (fun hHeld => ?_)
       clear hK K
       refine done_ (done_of HT_.out (by kernel_rfl)) ?_
       try go_wp2
       refine bodyPost_ret (results_cell_row rfl _ _ gb393 51 #[.slice Ao23 t399.length co23, .int .i64 t402, .int .i64 0, .string (⟨#[]⟩ : ByteArray), .int .i64 0] (0, 0) _ rfl (bq_ BK393) Tryd.underlying51 rfl (by kernel_rfl)) rfl ?_
       exact ⟨_, by first | rfl | (simp [errW_none, errW_some] <;> rfl) | (simp only [← hji11]; first | rfl | (simp [errW_none, errW_some] <;> rfl)) | (simp [*, errW_none, errW_some] <;> rfl), by (with_reducible repeat (first | apply Kd.R_alloc | apply Kd.R_drewN | apply Kd.R_drew)); exact Kd.R_mono (Kd.R_far (p := ⟨gb393, 4, none⟩) (Kd.R_far (p := ⟨gb393, 3, none⟩) (Kd.R_far (p := ⟨gb393, 2, none⟩) (Kd.R_far (p := ⟨gb393, 1, none⟩) (Kd.R_far (p := ⟨gb393, 0, none⟩) (Kd.R_types HO401.out BK393.out (by decide)) (fun _ hk => hk.2) (.slice Ao23 t399.length co23)) (fun _ hk => hk.2) (.int .i64 t402)) (fun _ hk => hk.2) (.int .i64 0)) (fun _ hk => hk.2) (.string (⟨#[]⟩ : ByteArray))) (fun _ hk => hk.2) (.int .i64 0)) (fun _ hk => trivial), pb_ HB⟩
      rw [if_neg c13] at H
      exact absurd H (by simp)
     rw [if_neg c12] at H
     exact absurd H (by simp)
    replace c10 := Bool.eq_false_iff.mpr c10
    subst c10
    have H1 : ((midrangeref04_failed.f 3).bind fun bt403 => (some (bt403.1, bt403.2.1, bt403.2.2.1, bt403.2.2.2.1, bt403.2.2.2.2))) = some (r1, r2, r3, r4, r5) := by rw [if_neg (show ¬ (false = true) by decide)] at H; exact H
    clear H
    have H := H1
    clear H1
    replace H := Option.bind_eq_some_iff.mp H
    obtain ⟨⟨t403, t406, t407, t408, t409⟩, A290, H⟩ := H
    replace H : (some (t403, t406, t407, t408, t409)) = some (r1, r2, r3, r4, r5) := H
    have A29 := Aside0.mk A290
    clear A290
    simp only [Option.some.injEq, Prod.mk.injEq] at H
    obtain ⟨rfl, rfl, rfl, rfl, rfl⟩ := H
    go_enter Tryd.func54, Tryd.ntmps54
    go_wp2_with (first | ((with_reducible refine gate_dst (N := 3) rfl ?_); refine bx_ 3 #[.slice A0_0 l0_0.length c0_0, .int .i64 a0_1] 24 ?_; intro gb392 hg w30 hbox hb; have BK392 := Aside0.mk (hbox); have GW392 := gw_ hg HB; have GE392 := gw_ hg HB; replace HB := sb_ HB hb; clear hb hbox hg) | ((with_reducible refine gate_dst (N := 6) rfl ?_); refine bx_ 6 #[.slice none 0 0, .int .i64 0, .int .i64 0, .string (⟨#[]⟩ : ByteArray), .int .i64 0] 51 ?_; intro gb393 hg w31 hbox hb; have BK393 := Aside0.mk (hbox); have GW393 := gw_ hg HB; have GE393 := gw_ hg HB; replace HB := sb_ HB hb; have NB392_393 := nl_ hg BK392; have NB393_392 := ng_ hg BK392; replace BK392 := kb_ BK392 hb; clear hb hbox hg; have hnb32 := NB392_393.out; have hnc32 := NB393_392.out; have hcz33_0 := cz_ BK392 0 (.slice A0_0 l0_0.length c0_0); have hcz33_1 := cz_ BK392 1 (.int .i64 a0_1); have hfz33_0 := blk_frozen BK392.out 0; have hfz33_1 := blk_frozen BK392.out 1) | ((with_reducible refine gate_callee (f := 70) rfl ?_); refine gl_ 13 Tryd.func70 #[.agg #[.slice A0_0 l0_0.length c0_0, .int .i64 a0_1], .int .i64 a1] ?_; (with_reducible refine (midrangeref04_known.calls k _ _ l0_0 a0_1 a1 t394 t395 _ ?side1 ?side2 A4.out).mono ?_); (case side1 => exact pc_ (Kd.C_below HR0_0.out HB.out)); (case side2 => exact HC0_0.out); rintro e w34 ⟨rfl, hb⟩; refine ⟨_, rfl, ?_⟩; replace BK392 := kb_ BK392 hb; replace BK393 := kb_ BK393 hb; replace HB := sb_ HB hb; (try clear hb); (try clear hb2); (try clear hk); (try clear hi); have hcz35_0 := cz_ BK392 0 (.slice A0_0 l0_0.length c0_0); have hcz35_1 := cz_ BK392 1 (.int .i64 a0_1); have hfz35_0 := blk_frozen BK392.out 0; have hfz35_1 := blk_frozen BK392.out 1; have p396 : 0 ≤ (t394 : Int) := ct_; have q396 : t394 < (l0_0.length : Int) := ct_; obtain ⟨ad396, e396, hx396_0, hx396_1⟩ := at_T46 HR0_0.out t394 p396 q396; cases e396; replace hx396_0 := pw_cell_below HB.out hx396_0; replace hx396_1 := pw_cell_below HB.out hx396_1; replace p396 := eq_true p396; replace q396 := eq_true q396) | ((with_reducible refine gate_callee (f := 20) rfl ?_); refine gl_ 28 Tryd.func20 #[.string ((rd_T46 l0_0 t394).f1)] ?_; (with_reducible refine (midrangeref04_Pages.calls ((rd_T46 l0_0 t394).f1) t397 _ A8.out).mono ?_); rintro e w' ⟨rfl, ⟨nd, rfl⟩⟩; refine ⟨_, rfl, ?_⟩; (try (rw [drewN_self w34]; generalize hq_ : World.drewN w34 _ = w34; have n0_ : Aside0 (w34.heap[gb392]? = some (.cells #[.slice (some ad396) l0_0.length c0_0, .int .i64 a0_1] 24 (0, 0))) := ⟨by rw [← hq_]; exact (pk_ BK392)⟩; have n1_ : Aside0 (w34.heap[gb393]? = some (.cells #[.slice none 0 0, .int .i64 0, .int .i64 0, .string (⟨#[]⟩ : ByteArray), .int .i64 0] 51 (0, 0))) := ⟨by rw [← hq_]; exact (pk_ BK393)⟩; have n2_ : Aside0 (Below w.heap.size w w34) := ⟨by rw [← hq_]; exact (pb_ HB)⟩; clear BK392 BK393 HB hq_; have BK392 := n0_; have BK393 := n1_; have HB := n2_; clear n0_ n1_ n2_))) | ((with_reducible refine gate_callee (f := 68) rfl ?_); refine gl_ 29 Tryd.func68 #[.int .i64 a2, .int .i64 1, .int .i64 t397] ?_; (with_reducible refine (midrangebase_Within.calls a2 1 t397 false _ A9.out).mono ?_); rintro e w' ⟨rfl, ⟨nd, rfl⟩⟩; refine ⟨_, rfl, ?_⟩; (try (rw [drewN_self w34]; generalize hq_ : World.drewN w34 _ = w34; have n0_ : Aside0 (w34.heap[gb392]? = some (.cells #[.slice (some ad396) l0_0.length c0_0, .int .i64 a0_1] 24 (0, 0))) := ⟨by rw [← hq_]; exact (pk_ BK392)⟩; have n1_ : Aside0 (w34.heap[gb393]? = some (.cells #[.slice none 0 0, .int .i64 0, .int .i64 0, .string (⟨#[]⟩ : ByteArray), .int .i64 0] 51 (0, 0))) := ⟨by rw [← hq_]; exact (pk_ BK393)⟩; have n2_ : Aside0 (Below w.heap.size w w34) := ⟨by rw [← hq_]; exact (pb_ HB)⟩; clear BK392 BK393 HB hq_; have BK392 := n0_; have BK393 := n1_; have HB := n2_; clear n0_ n1_ n2_))) | ((with_reducible refine gate_callee (f := 38) rfl ?_); refine gl_ 31 Tryd.func38 #[.int .i64 3] ?_; (with_reducible refine (midrangeref04_failed.calls 3 t403 t406 t407 t408 t409 _ A29.out).mono ?_); rintro e w36 ⟨v404, rfl, ho0, hb⟩; refine ⟨_, rfl, ?_⟩; have HO405 := Aside0.mk (Kd.R_lower ho0 (below_size (pb_ HB))); replace BK392 := kb_ BK392 hb; replace BK393 := kb_ BK393 hb; replace HB := sb_ HB hb; (try clear hb); (try clear hb2); (try clear hk); (try clear hi); (try clear ho0); obtain ⟨Ao37, co37, eo37⟩ := Kd.R_slice HO405.out; subst eo37; have hcz38_0 := cz_ BK393 0 (.slice none 0 0); have hcz38_1 := cz_ BK393 1 (.int .i64 0); have hcz38_2 := cz_ BK393 2 (.int .i64 0); have hcz38_3 := cz_ BK393 3 (.string (⟨#[]⟩ : ByteArray)); have hcz38_4 := cz_ BK393 4 (.int .i64 0); have hfz38_0 := blk_frozen BK393.out 0; have hfz38_1 := blk_frozen BK393.out 1; have hfz38_2 := blk_frozen BK393.out 2; have hfz38_3 := blk_frozen BK393.out 3; have hfz38_4 := blk_frozen BK393.out 4))
    refine bodyPost_ret (results_cell_row rfl _ _ gb393 51 #[.slice Ao37 t403.length co37, .int .i64 t406, .int .i64 t407, .string t408, .int .i64 t409] (0, 0) _ rfl (bq_ BK393) Tryd.underlying51 rfl (by kernel_rfl)) rfl ?_
    exact ⟨_, er_, by (with_reducible repeat (first | apply Kd.R_alloc | apply Kd.R_drewN | apply Kd.R_drew)); exact Kd.R_mono (Kd.R_far (p := ⟨gb393, 4, none⟩) (Kd.R_far (p := ⟨gb393, 3, none⟩) (Kd.R_far (p := ⟨gb393, 2, none⟩) (Kd.R_far (p := ⟨gb393, 1, none⟩) (Kd.R_far (p := ⟨gb393, 0, none⟩) (Kd.R_types HO405.out BK393.out (by decide)) (fun _ hk => hk.2) (.slice Ao37 t403.length co37)) (fun _ hk => hk.2) (.int .i64 t406)) (fun _ hk => hk.2) (.int .i64 t407)) (fun _ hk => hk.2) (.string t408)) (fun _ hk => hk.2) (.int .i64 t409)) (fun _ hk => trivial), pb_ HB⟩
   rw [if_neg c7] at H
   exact absurd H (by simp)
  rw [if_neg c6] at H
  exact absurd H (by simp)
 rw [if_neg c5] at H
 have c5b0 : (t395 == 0) = false := beq_eq_false_iff_ne.mpr c5
 have c5b1 : (t395 != 0) = true := bne_iff_ne.mpr c5
 simp only [Option.some.injEq, Prod.mk.injEq] at H
 obtain ⟨rfl, rfl, rfl, rfl, rfl⟩ := H
 go_enter Tryd.func54, Tryd.ntmps54
 go_wp2_with (first | ((with_reducible refine gate_dst (N := 3) rfl ?_); refine bx_ 3 #[.slice A0_0 l0_0.length c0_0, .int .i64 a0_1] 24 ?_; intro gb392 hg w39 hbox hb; have BK392 := Aside0.mk (hbox); have GW392 := gw_ hg HB; have GE392 := gw_ hg HB; replace HB := sb_ HB hb; clear hb hbox hg) | ((with_reducible refine gate_dst (N := 6) rfl ?_); refine bx_ 6 #[.slice none 0 0, .int .i64 0, .int .i64 0, .string (⟨#[]⟩ : ByteArray), .int .i64 0] 51 ?_; intro gb393 hg w40 hbox hb; have BK393 := Aside0.mk (hbox); have GW393 := gw_ hg HB; have GE393 := gw_ hg HB; replace HB := sb_ HB hb; have NB392_393 := nl_ hg BK392; have NB393_392 := ng_ hg BK392; replace BK392 := kb_ BK392 hb; clear hb hbox hg; have hnb41 := NB392_393.out; have hnc41 := NB393_392.out; have hcz42_0 := cz_ BK392 0 (.slice A0_0 l0_0.length c0_0); have hcz42_1 := cz_ BK392 1 (.int .i64 a0_1); have hfz42_0 := blk_frozen BK392.out 0; have hfz42_1 := blk_frozen BK392.out 1) | ((with_reducible refine gate_callee (f := 70) rfl ?_); refine gl_ 13 Tryd.func70 #[.agg #[.slice A0_0 l0_0.length c0_0, .int .i64 a0_1], .int .i64 a1] ?_; (with_reducible refine (midrangeref04_known.calls k _ _ l0_0 a0_1 a1 t394 t395 _ ?side1 ?side2 A4.out).mono ?_); (case side1 => exact pc_ (Kd.C_below HR0_0.out HB.out)); (case side2 => exact HC0_0.out); rintro e w43 ⟨rfl, hb⟩; refine ⟨_, rfl, ?_⟩; replace BK392 := kb_ BK392 hb; replace BK393 := kb_ BK393 hb; replace HB := sb_ HB hb; (try clear hb); (try clear hb2); (try clear hk); (try clear hi); have hcz44_0 := cz_ BK393 0 (.slice none 0 0); have hcz44_1 := cz_ BK393 1 (.int .i64 0); have hcz44_2 := cz_ BK393 2 (.int .i64 0); have hcz44_3 := cz_ BK393 3 (.string (⟨#[]⟩ : ByteArray)); have hcz44_4 := cz_ BK393 4 (.int .i64 0); have hfz44_0 := blk_frozen BK393.out 0; have hfz44_1 := blk_frozen BK393.out 1; have hfz44_2 := blk_frozen BK393.out 2; have hfz44_3 := blk_frozen BK393.out 3; have hfz44_4 := blk_frozen BK393.out 4))
 refine bodyPost_ret (results_cell_row rfl _ _ gb393 51 #[.slice none 0 0, .int .i64 0, .int .i64 0, .string (⟨#[]⟩ : ByteArray), .int .i64 t395] (0, 0) _ rfl (bq_ BK393) Tryd.underlying51 rfl (by kernel_rfl)) rfl ?_
 exact ⟨_, er_, by first | exact Kd.R_nil _ _ _ _ _ | exact Kd.N_nil _ _ _ _ _ | exact Kd.V_nil _ _ _ _ _ | exact Kd.Q_nil _ _ _ _ _ | exact Kd.S_nil _ _ _ _ _, pb_ HB⟩
def midrangeref04_Destroyed.f (k : Nat) (l0_0 : List (S46)) (a0_1 : Int) (a1 : Int) : Option ((List (S46)) × Int × Int × ByteArray × Int) := (midrangeref04_known.f k l0_0 a0_1 a1).bind fun bt412 => (if bt412.2 = 0 then ((midrangeref04_Own.f l0_0 a0_1).bind fun bt414 => (if 0 ≤ bt412.1 then (if bt412.1 ≤ (bt414.1.length : Int) then (if 0 ≤ (wrap64 (bt412.1 + 1)) then (if (wrap64 (bt412.1 + 1)) ≤ (bt414.1.length : Int) then (some ((bt414.1.eraseIdx (bt412.1 : Int).toNat), bt414.2, 0, (⟨#[]⟩ : ByteArray), 0)) else (none)) else (none)) else (none)) else (none))) else (some (([] : List (S46)), 0, 0, (⟨#[]⟩ : ByteArray), bt412.2)))
def midrangeref04_Destroyed.T5 : Bool × List (List Nat × List Nat) := (true, [([], []), ([0], [0]), ([], []), ([1, 2], [1, 2]), ([], []), ([4], [4]), ([], []), ([6], [6]), ([5, 7], [5, 7]), ([3, 8], [3, 8]), ([0, 1, 2, 3, 4, 5, 6, 7, 8, 9], []), ([10, 9, 9, 0, 1, 2, 3, 4, 5, 6, 7, 8, 9], [9, 10])])
def midrangeref04_Destroyed.B5 : List Nat := [0, 1, 0, 7, 0, 16, 0, 64, 240, 511, 1023, 2047]
theorem midrangeref04_Destroyed.tab5 : rtab .any (opsOf Tryd.f55 5) = midrangeref04_Destroyed.T5 := by kernel_rfl
theorem midrangeref04_Destroyed.bits5 : waitsOk midrangeref04_Destroyed.T5.2 midrangeref04_Destroyed.B5 = true := by kernel_rfl
set_option maxHeartbeats 8000000 in
set_option maxRecDepth 100000 in
theorem midrangeref04_Destroyed.calls (k : Nat) (A0_0 : Option Addr) (c0_0 : Nat) (l0_0 : List (S46)) (a0_1 : Int) (a1 : Int) (r1 : List (S46)) (r2 : Int) (r3 : Int) (r4 : ByteArray) (r5 : Int) (w : World) (hr0_0 : Kd.C k46 w A0_0 l0_0.length l0_0) (hc0_0 : l0_0.length ≤ c0_0) (h : midrangeref04_Destroyed.f k l0_0 a0_1 a1 = some (r1, r2, r3, r4, r5)) :
  Calls Tryd.prog 55 #[.agg #[.slice A0_0 l0_0.length c0_0, .int .i64 a0_1], .int .i64 a1] w fun e w' => ∃ v0_ : Value, e = .returned (.agg #[v0_, .int .i64 r2, .int .i64 r3, .string r4, .int .i64 r5]) ∧ Kd.R k46 46 w' w.heap.size (fun _ => True) v0_ r1 ∧ Below w.heap.size w w' := by
 have hu24 := Tryd.underlying24
 have hu51 := Tryd.underlying51
 have HR0_0 := Aside0.mk hr0_0
 have HC0_0 := Aside0.mk hc0_0
 clear hr0_0 hc0_0
 have HB := Aside0.mk (Below.refl w.heap.size w)
 have H : ((midrangeref04_known.f k l0_0 a0_1 a1).bind fun bt412 => (if bt412.2 = 0 then ((midrangeref04_Own.f l0_0 a0_1).bind fun bt414 => (if 0 ≤ bt412.1 then (if bt412.1 ≤ (bt414.1.length : Int) then (if 0 ≤ (wrap64 (bt412.1 + 1)) then (if (wrap64 (bt412.1 + 1)) ≤ (bt414.1.length : Int) then (some ((bt414.1.eraseIdx (bt412.1 : Int).toNat), bt414.2, 0, (⟨#[]⟩ : ByteArray), 0)) else (none)) else (none)) else (none)) else (none))) else (some (([] : List (S46)), 0, 0, (⟨#[]⟩ : ByteArray), bt412.2)))) = some (r1, r2, r3, r4, r5) := h
 clear h
 replace H := Option.bind_eq_some_iff.mp H
 obtain ⟨⟨t412, t413⟩, A30, H⟩ := H
 replace H : (if t413 = 0 then ((midrangeref04_Own.f l0_0 a0_1).bind fun bt414 => (if 0 ≤ t412 then (if t412 ≤ (bt414.1.length : Int) then (if 0 ≤ (wrap64 (t412 + 1)) then (if (wrap64 (t412 + 1)) ≤ (bt414.1.length : Int) then (some ((bt414.1.eraseIdx (t412 : Int).toNat), bt414.2, 0, (⟨#[]⟩ : ByteArray), 0)) else (none)) else (none)) else (none)) else (none))) else (some (([] : List (S46)), 0, 0, (⟨#[]⟩ : ByteArray), t413))) = some (r1, r2, r3, r4, r5) := H
 have A3 := Aside0.mk A30
 clear A30
 by_cases c4 : t413 = 0
 ·
  rw [if_pos c4] at H
  have c4b0 : (t413 == 0) = true := beq_iff_eq.mpr c4
  have c4b1 : (t413 != 0) = false := bne_eq_false_iff_eq.mpr c4
  clear c4
  replace H := Option.bind_eq_some_iff.mp H
  obtain ⟨⟨t414, t417⟩, A50, H⟩ := H
  replace H : (if 0 ≤ t412 then (if t412 ≤ (t414.length : Int) then (if 0 ≤ (wrap64 (t412 + 1)) then (if (wrap64 (t412 + 1)) ≤ (t414.length : Int) then (some ((t414.eraseIdx (t412 : Int).toNat), t417, 0, (⟨#[]⟩ : ByteArray), 0)) else (none)) else (none)) else (none)) else (none)) = some (r1, r2, r3, r4, r5) := H
  have A5 := Aside0.mk A50
  clear A50
  by_cases c6 : 0 ≤ t412
  ·
   rw [if_pos c6] at H
   have c6b0 := eq_true c6
   have c6b1 : decide (0 ≤ t412) = true := decide_eq_true c6
   clear c6
   by_cases c7 : t412 ≤ (t414.length : Int)
   ·
    rw [if_pos c7] at H
    have c7b0 := eq_true c7
    have c7b1 : decide (t412 ≤ (t414.length : Int)) = true := decide_eq_true c7
    clear c7
    obtain ⟨y419, hy419⟩ : ∃ y_ : List (S46), y_ = (t414.take (t412 : Int).toNat) := ⟨_, rfl⟩
    replace H : (if 0 ≤ (wrap64 (t412 + 1)) then (if (wrap64 (t412 + 1)) ≤ (t414.length : Int) then (some ((t414.eraseIdx (t412 : Int).toNat), t417, 0, (⟨#[]⟩ : ByteArray), 0)) else (none)) else (none)) = some (r1, r2, r3, r4, r5) := by first | (rw [hy419]; with_reducible exact H) | (have H2_ := (Option.bind_some _ _).symm.trans H; rw [hy419]; with_reducible exact H2_) | (have H2_ := (Option.bind_some _ _).symm.trans H; with_reducible exact H2_) | with_reducible exact H | (rw [hy419]; exact H) | exact H
    have Ny419 := Aside0.mk hy419
    clear hy419
    obtain ⟨ji8, hji8⟩ : ∃ j_ : Int, (wrap64 (t412 + 1)) = j_ := ⟨_, rfl⟩
    replace H : (if 0 ≤ (ji8) then (if (ji8) ≤ (t414.length : Int) then (some ((t414.eraseIdx (t412 : Int).toNat), t417, 0, (⟨#[]⟩ : ByteArray), 0)) else (none)) else (none)) = some (r1, r2, r3, r4, r5) := by first | (rw [hji8] at H; exact H) | (simp only [hji8] at H ⊢; exact H)
    (try rw [hji8] at A3)
    (try rw [hji8] at A5)
    have hji8w : (IntKind.i64.wrap (t412 + 1)) = ji8 := (i64_w _).trans hji8
    by_cases c9 : 0 ≤ (ji8)
    ·
     rw [if_pos c9] at H
     have c9b0 := eq_true c9
     have c9b1 : decide (0 ≤ (ji8)) = true := decide_eq_true c9
     clear c9
     by_cases c10 : (ji8) ≤ (t414.length : Int)
     ·
      rw [if_pos c10] at H
      have c10b0 := eq_true c10
      have c10b1 : decide ((ji8) ≤ (t414.length : Int)) = true := decide_eq_true c10
      clear c10
      obtain ⟨y423, hy423⟩ : ∃ y_ : List (S46), y_ = (t414.drop ((ji8) : Int).toNat) := ⟨_, rfl⟩
      replace H : (some ((t414.eraseIdx (t412 : Int).toNat), t417, 0, (⟨#[]⟩ : ByteArray), 0)) = some (r1, r2, r3, r4, r5) := by first | (rw [hy423]; with_reducible exact H) | (have H2_ := (Option.bind_some _ _).symm.trans H; rw [hy423]; with_reducible exact H2_) | (have H2_ := (Option.bind_some _ _).symm.trans H; with_reducible exact H2_) | with_reducible exact H | (rw [hy423]; exact H) | exact H
      have Ny423 := Aside0.mk hy423
      clear hy423
      obtain ⟨y427, hy427⟩ : ∃ y_ : List (S46), y_ = (t414.eraseIdx (t412 : Int).toNat) := ⟨_, rfl⟩
      replace H : (some (y427, t417, 0, (⟨#[]⟩ : ByteArray), 0)) = some (r1, r2, r3, r4, r5) := by first | (rw [hy427]; with_reducible exact H) | (have H2_ := (Option.bind_some _ _).symm.trans H; rw [hy427]; with_reducible exact H2_) | (have H2_ := (Option.bind_some _ _).symm.trans H; with_reducible exact H2_) | with_reducible exact H | (rw [hy427]; exact H) | exact H
      have Ny427 := Aside0.mk hy427
      clear hy427
      simp only [Option.some.injEq, Prod.mk.injEq] at H
      obtain ⟨rfl, rfl, rfl, rfl, rfl⟩ := H
      go_enter Tryd.func55, Tryd.ntmps55
      try go_wp2_with (first | ((with_reducible refine gate_dst (N := 2) rfl ?_); refine bx_ 2 #[.slice A0_0 l0_0.length c0_0, .int .i64 a0_1] 24 ?_; intro gb410 hg w11 hbox hb; have BK410 := Aside0.mk (hbox); have GW410 := gw_ hg HB; have GE410 := gw_ hg HB; replace HB := sb_ HB hb; clear hb hbox hg) | ((with_reducible refine gate_dst (N := 4) rfl ?_); refine bx_ 4 #[.slice none 0 0, .int .i64 0, .int .i64 0, .string (⟨#[]⟩ : ByteArray), .int .i64 0] 51 ?_; intro gb411 hg w12 hbox hb; have BK411 := Aside0.mk (hbox); have GW411 := gw_ hg HB; have GE411 := gw_ hg HB; replace HB := sb_ HB hb; have NB410_411 := nl_ hg BK410; have NB411_410 := ng_ hg BK410; replace BK410 := kb_ BK410 hb; clear hb hbox hg; have hnb13 := NB410_411.out; have hnc13 := NB411_410.out; have hcz14_0 := cz_ BK410 0 (.slice A0_0 l0_0.length c0_0); have hcz14_1 := cz_ BK410 1 (.int .i64 a0_1); have hfz14_0 := blk_frozen BK410.out 0; have hfz14_1 := blk_frozen BK410.out 1) | ((with_reducible refine gate_callee (f := 70) rfl ?_); refine gl_ 11 Tryd.func70 #[.agg #[.slice A0_0 l0_0.length c0_0, .int .i64 a0_1], .int .i64 a1] ?_; (with_reducible refine (midrangeref04_known.calls k _ _ l0_0 a0_1 a1 t412 t413 _ ?side1 ?side2 A3.out).mono ?_); (case side1 => exact pc_ (Kd.C_below HR0_0.out HB.out)); (case side2 => exact HC0_0.out); rintro e w15 ⟨rfl, hb⟩; refine ⟨_, rfl, ?_⟩; replace BK410 := kb_ BK410 hb; replace BK411 := kb_ BK411 hb; replace HB := sb_ HB hb; (try clear hb); (try clear hb2); (try clear hk); (try clear hi); have hcz16_0 := cz_ BK410 0 (.slice A0_0 l0_0.length c0_0); have hcz16_1 := cz_ BK410 1 (.int .i64 a0_1); have hfz16_0 := blk_frozen BK410.out 0; have hfz16_1 := blk_frozen BK410.out 1) | ((with_reducible refine gate_callee (f := 8) rfl ?_); refine gl_ 19 Tryd.func8 #[.agg #[.slice A0_0 l0_0.length c0_0, .int .i64 a0_1]] ?_; (with_reducible refine (midrangeref04_Own.calls _ _ l0_0 a0_1 t414 t417 _ ?side1 ?side2 A5.out).mono ?_); (case side1 => exact pc_ (Kd.C_below HR0_0.out HB.out)); (case side2 => exact HC0_0.out); rintro e w17 ⟨v415, rfl, ho0, hb⟩; refine ⟨_, rfl, ?_⟩; have HO416 := Aside0.mk (Kd.R_lower ho0 (below_size (pb_ HB))); replace BK410 := kb_ BK410 hb; replace BK411 := kb_ BK411 hb; replace HB := sb_ HB hb; (try clear hb); (try clear hb2); (try clear hk); (try clear hi); (try clear ho0)) | ((with_reducible refine gate_dst (N := 7) rfl ?_); refine bx_ 7 #[.slice none 0 0, .int .i64 0] 24 ?_; intro gb418 hg w18 hbox hb; replace HO416 := Aside0.mk (Kd.R_below (rk_ HO416) hb); have BK418 := Aside0.mk (hbox); have GW418 := gw_ hg HB; have GE418 := gw_ hg HB; replace HB := sb_ HB hb; have NB410_418 := nl_ hg BK410; have NB418_410 := ng_ hg BK410; replace BK410 := kb_ BK410 hb; have NB411_418 := nl_ hg BK411; have NB418_411 := ng_ hg BK411; replace BK411 := kb_ BK411 hb; clear hb hbox hg; obtain ⟨Ao19, co19, eo19⟩ := Kd.R_slice HO416.out; subst eo19; have hnb20 := NB418_410.out; have hnc20 := NB410_418.out; have hnb21 := NB418_411.out; have hnc21 := NB411_418.out; have hcz22_0 := cz_ BK418 0 (.slice none 0 0); have hcz22_1 := cz_ BK418 1 (.int .i64 0); have hfz22_0 := blk_frozen BK418.out 0; have hfz22_1 := blk_frozen BK418.out 1))
      have n0_ : Aside0 (Kd.R k46 46 ((w18.setCell ⟨gb418, 0, none⟩ (.slice Ao19 t414.length co19)).setCell ⟨gb418, 1, none⟩ (.int .i64 t417)) w.heap.size (fun _ => True) (.slice Ao19 t414.length co19) t414) := ⟨by (with_reducible repeat (first | apply Kd.R_alloc | apply Kd.R_drewN | apply Kd.R_drew)); exact Kd.R_mono (Kd.R_far (p := ⟨gb418, 1, none⟩) (Kd.R_far (p := ⟨gb418, 0, none⟩) (Kd.R_types HO416.out BK418.out (by decide)) (fun _ hk => hk.2) (.slice Ao19 t414.length co19)) (fun _ hk => hk.2) (.int .i64 t417)) (fun _ hk => trivial)⟩
      have n1_ : Aside0 (((w18.setCell ⟨gb418, 0, none⟩ (.slice Ao19 t414.length co19)).setCell ⟨gb418, 1, none⟩ (.int .i64 t417)).heap[gb410]? = some (.cells #[.slice A0_0 l0_0.length c0_0, .int .i64 a0_1] 24 (0, 0))) := ⟨by (with_reducible repeat (first | refine blk_drewN ?_ _ | refine blk_drew ?_ | refine blk_alloc ?_ _)); refine blk_far ?_ NB410_418.out _; (with_reducible repeat (first | refine blk_drewN ?_ _ | refine blk_drew ?_ | refine blk_alloc ?_ _)); refine blk_far ?_ NB410_418.out _; (with_reducible repeat (first | refine blk_drewN ?_ _ | refine blk_drew ?_ | refine blk_alloc ?_ _)); exact BK410.out⟩
      have n2_ : Aside0 (((w18.setCell ⟨gb418, 0, none⟩ (.slice Ao19 t414.length co19)).setCell ⟨gb418, 1, none⟩ (.int .i64 t417)).heap[gb411]? = some (.cells #[.slice none 0 0, .int .i64 0, .int .i64 0, .string (⟨#[]⟩ : ByteArray), .int .i64 0] 51 (0, 0))) := ⟨by (with_reducible repeat (first | refine blk_drewN ?_ _ | refine blk_drew ?_ | refine blk_alloc ?_ _)); refine blk_far ?_ NB411_418.out _; (with_reducible repeat (first | refine blk_drewN ?_ _ | refine blk_drew ?_ | refine blk_alloc ?_ _)); refine blk_far ?_ NB411_418.out _; (with_reducible repeat (first | refine blk_drewN ?_ _ | refine blk_drew ?_ | refine blk_alloc ?_ _)); exact BK411.out⟩
      have n3_ : Aside0 (((w18.setCell ⟨gb418, 0, none⟩ (.slice Ao19 t414.length co19)).setCell ⟨gb418, 1, none⟩ (.int .i64 t417)).heap[gb418]? = some (.cells #[.slice Ao19 t414.length co19, .int .i64 t417] 24 (0, 0))) := ⟨bq_ BK418⟩
      have n4_ : Aside0 (Below w.heap.size w ((w18.setCell ⟨gb418, 0, none⟩ (.slice Ao19 t414.length co19)).setCell ⟨gb418, 1, none⟩ (.int .i64 t417))) := ⟨pb_ HB⟩
      (try clear HO416)
      (try clear BK410)
      (try clear BK411)
      (try clear BK418)
      (try clear HB)
      generalize ((w18.setCell ⟨gb418, 0, none⟩ (.slice Ao19 t414.length co19)).setCell ⟨gb418, 1, none⟩ (.int .i64 t417)) = w23 at n0_ n1_ n2_ n3_ n4_ ⊢
      have HO416 := n0_
      have BK410 := n1_
      have BK411 := n2_
      have BK418 := n3_
      have HB := n4_
      clear n0_ n1_ n2_ n3_ n4_
      replace HO416 := rd_ HO416
      replace BK410 := Aside0.mk (blk_drew BK410.out)
      replace BK411 := Aside0.mk (blk_drew BK411.out)
      replace BK418 := Aside0.mk (blk_drew BK418.out)
      replace HB := Aside0.mk (below_drew1 HB.out)
      have q25 : (t412 : Int) ≤ ((t414.length : Int) : Int) := ct_
      obtain ⟨i025, hi025, _, hsz25, _⟩ := info_parts info46
      have hroom25 : t414.length ≤ co19 := (Kd.R_reads' HO416.out).2.1
      have hC25 : Kd.C k46 _ Ao19 t414.length t414 := (Kd.R_reads' HO416.out).2.2
      have hcut25 := cut_to (P := Tryd.prog) 22 46 .i64 Tryd.underlying22 hi025 Ao19 t414.length co19 t412 (ct_) q25 hroom25
      have hr25 := Kd.C_take (m := (t412 : Int).toNat) hC25 (by omega)
      have hy25 : y419.length = (t412 : Int).toNat := (by rw [Ny419.out, List.length_take]; omega)
      rw [← Ny419.out] at hr25
      rw [← hy25] at hcut25
      have HR422 := Aside0.mk hr25
      have HC422 := Aside0.mk (show y419.length ≤ co19 from by omega)
      clear hr25 hC25 hroom25 hi025 hsz25
      have KY25 := Aside0.mk hy25
      clear hy25
      have KL25 := Aside0.mk (show (t412 : Int).toNat ≤ t414.length from by omega)
      replace q25 := eq_true q25
      have q26 : ((ji8) : Int) ≤ ((t414.length : Int) : Int) := ct_
      obtain ⟨i026, hi026, _, hsz26, _⟩ := info_parts info46
      have hroom26 : t414.length ≤ co19 := (Kd.R_reads' HO416.out).2.1
      have hC26 : Kd.C k46 _ Ao19 t414.length t414 := (Kd.R_reads' HO416.out).2.2
      have q026 : (0 : Int) ≤ ((ji8) : Int) := ct_
      have hcut26 := cut_from (P := Tryd.prog) 22 46 .i64 Tryd.underlying22 hi026 2 hsz26 Ao19 t414.length co19 (ji8) q026 q26
      have hr26 := Kd.C_drop (m := ((ji8) : Int).toNat) (c := co19) hC26 (by omega) hroom26
      obtain ⟨A26, hA26⟩ : ∃ A1, A1 = (if co19 = ((ji8) : Int).toNat then Ao19 else (Ao19 : Option Addr).map (·.add (((ji8) : Int).toNat * 2))) := ⟨_, rfl⟩
      obtain ⟨c26, hc26⟩ : ∃ c1, c1 = co19 - ((ji8) : Int).toNat := ⟨_, rfl⟩
      have hy26 : y423.length = t414.length - ((ji8) : Int).toNat := (by rw [Ny423.out, List.length_drop] <;> omega)
      rw [show (t414).drop ((ji8) : Int).toNat = y423 from Ny423.out.symm] at hr26
      replace hr26 : Kd.C k46 _ A26 y423.length y423 := (by rw [hA26]; exact hr26)
      rw [← hy26, ← hA26, ← hc26] at hcut26
      have HR426 := Aside0.mk hr26
      have HC426 := Aside0.mk (show y423.length ≤ c26 from by rw [hy26, hc26]; exact Nat.sub_le_sub_right hroom26 _)
      clear hr26 hC26 hroom26 hi026 hsz26 hc26
      have KY26 := Aside0.mk hy26
      have KA26 := Aside0.mk hA26
      clear hy26 hA26
      have KL26 := Aside0.mk (show ((ji8) : Int).toNat ≤ t414.length from by omega)
      replace q26 := eq_true q26
      obtain ⟨go28, co28, eo28, gb28, gl28, cl28, HG28⟩ := Kd.R_form HO416.out (by have hj_ : 0 ≤ (t412 : Int) := ct_; have hl_ : (ji8 : Int) ≤ (t414.length : Int) := ct_; have hh_ : (t412 : Int) ≤ (t414.length : Int) := ct_; rw [← hji8] at hl_; unfold wrap64 at hl_; omega)
      (first | cases eo28 | (injection eo28 with ea_ en_ ec_; (first | subst ea_ | (injection ea_ with ea_; subst ea_)); subst ec_; clear en_))
      have GB28 := Aside0.mk gb28
      have GG28 := Aside0.mk HG28
      clear gb28 gl28 HG28
      refine start_ (n := 12) (S := fun w' => w'.cell? ⟨gb418, 0, none⟩ = some (.slice (some ⟨go28, 0, none⟩) t414.length co19) ∧ w'.cell? ⟨gb418, 1, none⟩ = some (.int .i64 t417)) (ds := [11]) #[false, false, false, false, false, false, false, false, false, false, false, false] (by kernel_rfl) rfl rfl ⟨cy_ BK418 0, cy_ BK418 1⟩ (fun hHeld => ?_); refine with_tabW midrangeref04_Destroyed.tab5 midrangeref04_Destroyed.bits5 (fun HT_ HW_ => ?_)
      generalize w23.drew = w24 at HO416 BK410 BK411 BK418 HB GG28 HR422 HR426 hHeld ⊢
      refine pu_ 0 20 HT_ ?_
      refine pu_ 2 22 HT_ ?_
      refine pu_ 4 24 HT_ ?_
      refine pu_ 6 26 HT_ ?_
      refine pu_ 7 27 HT_ ?_
      refine tk_ 1 21 HT_ HW_ hHeld rfl (Or.inl ⟨by rfl, by rintro w' ⟨s0, s1⟩; go_simp; with_reducible rfl⟩) ?_
      refine pu_ 3 23 HT_ ?_
      refine tk_ 5 25 HT_ HW_ hHeld rfl (Or.inl ⟨by rfl, by rintro w' ⟨s0, s1⟩; go_simp; with_reducible rfl⟩) ?_
      refine pu_ 8 28 HT_ ?_
      refine one_ (i := 9) (N := some 29) #[true, true, true, true, true, true, true, true, true, true, false, false] rfl rfl (one_of HT_.out (by kernel_rfl)) (by decide) (fun K hK => ?_)
      have hj_ : 0 ≤ (t412 : Int) := ct_
      have hl_ : (ji8 : Int) ≤ (t414.length : Int) := ct_
      have hh_ : (t412 : Int) ≤ (t414.length : Int) := ct_
      have hb_ := (Kd.R_reads' HO416.out).2.2.2.1
      have h0_ : (0 : Int) ≤ (ji8 : Int) := ct_
      have hy1_ := KY25.out
      have hk_ : (ji8 : Int).toNat = y419.length + 1 := (by have hw_ : (ji8 : Int) = t412 + 1 := (by have h00_ := h0_; rw [← hji8] at h00_ ⊢; unfold wrap64 at h00_ ⊢; omega); rw [hw_]; omega)
      refine Kd.R_delete_step k46 (w0 := w) w.heap.size (by rfl) (.tmp 23) (.tmp 28) 22 46 rfl Tryd.underlying22 (by kernel_rfl) (g := go28) (n := t414.length) (c := co19) (k := y419.length) rfl rfl ?hA ?hm (rk_ HO416) ?hk (pb_ HB) (below_size (pb_ HB)) ?_
      (case hA => have ha_ := KA26.out; rw [hk_] at ha_; exact ha_)
      (case hm => have ha_ := KY26.out; omega)
      (case hk => omega)
      intro w27 ho hb hg
      clear hj_ hl_ hh_ hb_ hk_ h0_
      rw [hy1_, ← Ny427.out] at ho
      clear hy1_
      have hn_ : t414.length - 1 = y427.length := (by have := (Kd.R_reads' ho).1; omega)
      rw [hn_] at ho ⊢
      clear hn_
      replace BK410 := Aside0.mk (blk_grown (g := gb410) (o := .cells #[.slice A0_0 l0_0.length c0_0, .int .i64 a0_1] 24 (0, 0)) (pk_ BK410) hg (Kd.R_ne HO416.out BK410.out (by decide)))
      replace BK411 := Aside0.mk (blk_grown (g := gb411) (o := .cells #[.slice none 0 0, .int .i64 0, .int .i64 0, .string (⟨#[]⟩ : ByteArray), .int .i64 0] 51 (0, 0)) (pk_ BK411) hg (Kd.R_ne HO416.out BK411.out (by decide)))
      replace BK418 := Aside0.mk (blk_grown (g := gb418) (o := .cells #[.slice (some ⟨go28, 0, none⟩) t414.length co19, .int .i64 t417] 24 (0, 0)) (pk_ BK418) hg (Kd.R_ne HO416.out BK418.out (by decide)))
      replace HO416 := Aside0.mk (ho)
      replace HB := Aside0.mk (hb)
      clear ho hb hg
      refine hK.out _ _ ⟨cy_ BK418 0, cy_ BK418 1⟩ (fun hHeld => ?_)
      clear hK K
      refine nn_ 29 ?_
      refine pu_ 10 30 HT_ ?_
      refine last_ (i := 11) (N := none) #[true, true, true, true, true, true, true, true, true, true, true, true] rfl rfl (one_of HT_.out (by kernel_rfl)) (by decide) (fun K hK => ?_)
      have hs29 : w27.cell? ⟨gb418, 0, none⟩ = some (.slice (some ⟨go28, 0, none⟩) t414.length co19) := (blk_cell BK418.out 0).trans rfl
      have hfs29 := blk_frozen BK418.out 0
      have hns29_0 := NB410_418.out
      have hns29_1 := NB411_418.out
      have hms29_0 := NB418_410.out
      have hms29_1 := NB418_411.out
      refine skip_ (w1 := ?_) (by rfl) rfl ?_ ?_
      rotate_left
      ·
       go_simp
       rfl
      refine hK.out _ _ ?_
      clear hK K
      refine done_ (done_of HT_.out (by kernel_rfl)) ?_
      have hcz30_0 := cz_ BK418 0 (.slice (some ⟨go28, 0, none⟩) t414.length co19)
      have hcz30_1 := cz_ BK418 1 (.int .i64 t417)
      have hfz30_0 := blk_frozen BK418.out 0
      have hfz30_1 := blk_frozen BK418.out 1
      have hcz31_0 := cz_ BK411 0 (.slice none 0 0)
      have hcz31_1 := cz_ BK411 1 (.int .i64 0)
      have hcz31_2 := cz_ BK411 2 (.int .i64 0)
      have hcz31_3 := cz_ BK411 3 (.string (⟨#[]⟩ : ByteArray))
      have hcz31_4 := cz_ BK411 4 (.int .i64 0)
      have hfz31_0 := blk_frozen BK411.out 0
      have hfz31_1 := blk_frozen BK411.out 1
      have hfz31_2 := blk_frozen BK411.out 2
      have hfz31_3 := blk_frozen BK411.out 3
      have hfz31_4 := blk_frozen BK411.out 4
      try go_wp2
      refine bodyPost_ret (results_cell_row rfl _ _ gb411 51 #[.slice (some ⟨go28, 0, none⟩) y427.length co19, .int .i64 t417, .int .i64 0, .string (⟨#[]⟩ : ByteArray), .int .i64 0] (0, 0) _ rfl (bq_ BK411) Tryd.underlying51 rfl (by kernel_rfl)) rfl ?_
      exact ⟨_, by first | rfl | (simp [errW_none, errW_some] <;> rfl) | (simp only [← hji8]; first | rfl | (simp [errW_none, errW_some] <;> rfl)) | (simp [*, errW_none, errW_some] <;> rfl), by (with_reducible repeat (first | apply Kd.R_alloc | apply Kd.R_drewN | apply Kd.R_drew)); exact Kd.R_mono (Kd.R_far (p := ⟨gb411, 4, none⟩) (Kd.R_far (p := ⟨gb411, 3, none⟩) (Kd.R_far (p := ⟨gb411, 2, none⟩) (Kd.R_far (p := ⟨gb411, 1, none⟩) (Kd.R_far (p := ⟨gb411, 0, none⟩) (Kd.R_far (p := ⟨gb418, 0, none⟩) (Kd.R_types (Kd.R_types HO416.out BK418.out (by decide)) BK411.out (by decide)) (fun _ hk => hk.1.2) (.slice (some ⟨go28, 0, none⟩) y427.length co19)) (fun _ hk => hk.2) (.slice (some ⟨go28, 0, none⟩) y427.length co19)) (fun _ hk => hk.2) (.int .i64 t417)) (fun _ hk => hk.2) (.int .i64 0)) (fun _ hk => hk.2) (.string (⟨#[]⟩ : ByteArray))) (fun _ hk => hk.2) (.int .i64 0)) (fun _ hk => trivial), pb_ HB⟩
     rw [if_neg c10] at H
     exact absurd H (by simp)
    rw [if_neg c9] at H
    exact absurd H (by simp)
   rw [if_neg c7] at H
   exact absurd H (by simp)
  rw [if_neg c6] at H
  exact absurd H (by simp)
 rw [if_neg c4] at H
 have c4b0 : (t413 == 0) = false := beq_eq_false_iff_ne.mpr c4
 have c4b1 : (t413 != 0) = true := bne_iff_ne.mpr c4
 simp only [Option.some.injEq, Prod.mk.injEq] at H
 obtain ⟨rfl, rfl, rfl, rfl, rfl⟩ := H
 go_enter Tryd.func55, Tryd.ntmps55
 go_wp2_with (first | ((with_reducible refine gate_dst (N := 2) rfl ?_); refine bx_ 2 #[.slice A0_0 l0_0.length c0_0, .int .i64 a0_1] 24 ?_; intro gb410 hg w32 hbox hb; have BK410 := Aside0.mk (hbox); have GW410 := gw_ hg HB; have GE410 := gw_ hg HB; replace HB := sb_ HB hb; clear hb hbox hg) | ((with_reducible refine gate_dst (N := 4) rfl ?_); refine bx_ 4 #[.slice none 0 0, .int .i64 0, .int .i64 0, .string (⟨#[]⟩ : ByteArray), .int .i64 0] 51 ?_; intro gb411 hg w33 hbox hb; have BK411 := Aside0.mk (hbox); have GW411 := gw_ hg HB; have GE411 := gw_ hg HB; replace HB := sb_ HB hb; have NB410_411 := nl_ hg BK410; have NB411_410 := ng_ hg BK410; replace BK410 := kb_ BK410 hb; clear hb hbox hg; have hnb34 := NB410_411.out; have hnc34 := NB411_410.out; have hcz35_0 := cz_ BK410 0 (.slice A0_0 l0_0.length c0_0); have hcz35_1 := cz_ BK410 1 (.int .i64 a0_1); have hfz35_0 := blk_frozen BK410.out 0; have hfz35_1 := blk_frozen BK410.out 1) | ((with_reducible refine gate_callee (f := 70) rfl ?_); refine gl_ 11 Tryd.func70 #[.agg #[.slice A0_0 l0_0.length c0_0, .int .i64 a0_1], .int .i64 a1] ?_; (with_reducible refine (midrangeref04_known.calls k _ _ l0_0 a0_1 a1 t412 t413 _ ?side1 ?side2 A3.out).mono ?_); (case side1 => exact pc_ (Kd.C_below HR0_0.out HB.out)); (case side2 => exact HC0_0.out); rintro e w36 ⟨rfl, hb⟩; refine ⟨_, rfl, ?_⟩; replace BK410 := kb_ BK410 hb; replace BK411 := kb_ BK411 hb; replace HB := sb_ HB hb; (try clear hb); (try clear hb2); (try clear hk); (try clear hi); have hcz37_0 := cz_ BK411 0 (.slice none 0 0); have hcz37_1 := cz_ BK411 1 (.int .i64 0); have hcz37_2 := cz_ BK411 2 (.int .i64 0); have hcz37_3 := cz_ BK411 3 (.string (⟨#[]⟩ : ByteArray)); have hcz37_4 := cz_ BK411 4 (.int .i64 0); have hfz37_0 := blk_frozen BK411.out 0; have hfz37_1 := blk_frozen BK411.out 1; have hfz37_2 := blk_frozen BK411.out 2; have hfz37_3 := blk_frozen BK411.out 3; have hfz37_4 := blk_frozen BK411.out 4))
 refine bodyPost_ret (results_cell_row rfl _ _ gb411 51 #[.slice none 0 0, .int .i64 0, .int .i64 0, .string (⟨#[]⟩ : ByteArray), .int .i64 t413] (0, 0) _ rfl (bq_ BK411) Tryd.underlying51 rfl (by kernel_rfl)) rfl ?_
 exact ⟨_, er_, by first | exact Kd.R_nil _ _ _ _ _ | exact Kd.N_nil _ _ _ _ _ | exact Kd.V_nil _ _ _ _ _ | exact Kd.Q_nil _ _ _ _ _ | exact Kd.S_nil _ _ _ _ _, pb_ HB⟩
def midrangeref04_reach.f (k : Nat) (l0_0 : List (S46)) (a0_1 : Int) (a1_0 : Int) (a1_1 : Int) (a2 : Int) : Option (Int × Int) := (midrangeref04_known.f k l0_0 a0_1 a1_0).bind fun bt432 => (if bt432.2 = 0 then (if 0 ≤ bt432.1 then (if bt432.1 < (l0_0.length : Int) then ((midrangebase_Within.f a1_1 0 (((rd_T46 l0_0 bt432.1).f1).size : Int)).bind fun t435 => (if t435 = true then ((midrangebase_Within.f a2 0 (wrap64 ((((rd_T46 l0_0 bt432.1).f1).size : Int) - a1_1))).bind fun t436 => (if t436 = true then (some (bt432.1, 0)) else (some (bt432.1, 3)))) else (some (bt432.1, 3)))) else (none)) else (none)) else (some (bt432.1, bt432.2)))
set_option maxHeartbeats 8000000 in
set_option maxRecDepth 100000 in
theorem midrangeref04_reach.calls (k : Nat) (A0_0 : Option Addr) (c0_0 : Nat) (l0_0 : List (S46)) (a0_1 : Int) (a1_0 : Int) (a1_1 : Int) (a2 : Int) (r1 : Int) (r2 : Int) (w : World) (hr0_0 : Kd.C k46 w A0_0 l0_0.length l0_0) (hc0_0 : l0_0.length ≤ c0_0) (h : midrangeref04_reach.f k l0_0 a0_1 a1_0 a1_1 a2 = some (r1, r2)) :
  Calls Tryd.prog 72 #[.agg #[.slice A0_0 l0_0.length c0_0, .int .i64 a0_1], .agg #[.int .i64 a1_0, .int .i64 a1_1], .int .i64 a2] w fun e w' => e = .returned (.tuple #[.int .i64 r1, .int .i64 r2]) ∧ Below w.heap.size w w' := by
 have hu24 := Tryd.underlying24
 have hu79 := Tryd.underlying79
 have HR0_0 := Aside0.mk hr0_0
 have HC0_0 := Aside0.mk hc0_0
 clear hr0_0 hc0_0
 have HB := Aside0.mk (Below.refl w.heap.size w)
 have H : ((midrangeref04_known.f k l0_0 a0_1 a1_0).bind fun bt432 => (if bt432.2 = 0 then (if 0 ≤ bt432.1 then (if bt432.1 < (l0_0.length : Int) then ((midrangebase_Within.f a1_1 0 (((rd_T46 l0_0 bt432.1).f1).size : Int)).bind fun t435 => (if t435 = true then ((midrangebase_Within.f a2 0 (wrap64 ((((rd_T46 l0_0 bt432.1).f1).size : Int) - a1_1))).bind fun t436 => (if t436 = true then (some (bt432.1, 0)) else (some (bt432.1, 3)))) else (some (bt432.1, 3)))) else (none)) else (none)) else (some (bt432.1, bt432.2)))) = some (r1, r2) := h
 clear h
 replace H := Option.bind_eq_some_iff.mp H
 obtain ⟨⟨t432, t433⟩, A40, H⟩ := H
 replace H : (if t433 = 0 then (if 0 ≤ t432 then (if t432 < (l0_0.length : Int) then ((midrangebase_Within.f a1_1 0 (((rd_T46 l0_0 t432).f1).size : Int)).bind fun t435 => (if t435 = true then ((midrangebase_Within.f a2 0 (wrap64 ((((rd_T46 l0_0 t432).f1).size : Int) - a1_1))).bind fun t436 => (if t436 = true then (some (t432, 0)) else (some (t432, 3)))) else (some (t432, 3)))) else (none)) else (none)) else (some (t432, t433))) = some (r1, r2) := H
 have A4 := Aside0.mk A40
 clear A40
 by_cases c5 : t433 = 0
 ·
  rw [if_pos c5] at H
  have c5b0 : (t433 == 0) = true := beq_iff_eq.mpr c5
  have c5b1 : (t433 != 0) = false := bne_eq_false_iff_eq.mpr c5
  clear c5
  by_cases c6 : 0 ≤ t432
  ·
   rw [if_pos c6] at H
   have c6b0 : decide (0 ≤ t432) = true := decide_eq_true c6
   clear c6
   by_cases c7 : t432 < (l0_0.length : Int)
   ·
    rw [if_pos c7] at H
    have c7b0 : decide (t432 < (l0_0.length : Int)) = true := decide_eq_true c7
    clear c7
    replace H := Option.bind_eq_some_iff.mp H
    obtain ⟨t435, A80, H⟩ := H
    replace H : (if t435 = true then ((midrangebase_Within.f a2 0 (wrap64 ((((rd_T46 l0_0 t432).f1).size : Int) - a1_1))).bind fun t436 => (if t436 = true then (some (t432, 0)) else (some (t432, 3)))) else (some (t432, 3))) = some (r1, r2) := H
    have A8 := Aside0.mk A80
    clear A80
    by_cases c9 : t435 = true
    ·
     subst c9
     have H1 : ((midrangebase_Within.f a2 0 (wrap64 ((((rd_T46 l0_0 t432).f1).size : Int) - a1_1))).bind fun t436 => (if t436 = true then (some (t432, 0)) else (some (t432, 3)))) = some (r1, r2) := by rw [if_pos rfl] at H; exact H
     clear H
     have H := H1
     clear H1
     replace H := Option.bind_eq_some_iff.mp H
     obtain ⟨t436, A100, H⟩ := H
     replace H : (if t436 = true then (some (t432, 0)) else (some (t432, 3))) = some (r1, r2) := H
     have A10 := Aside0.mk A100
     clear A100
     by_cases c11 : t436 = true
     ·
      subst c11
      have H1 : (some (t432, 0)) = some (r1, r2) := by rw [if_pos rfl] at H; exact H
      clear H
      have H := H1
      clear H1
      simp only [Option.some.injEq, Prod.mk.injEq] at H
      obtain ⟨rfl, rfl⟩ := H
      go_enter Tryd.func72, Tryd.ntmps72
      go_wp2_with (first | ((with_reducible refine gate_dst (N := 3) rfl ?_); refine bx_ 3 #[.slice A0_0 l0_0.length c0_0, .int .i64 a0_1] 24 ?_; intro gb430 hg w12 hbox hb; have BK430 := Aside0.mk (hbox); have GW430 := gw_ hg HB; have GE430 := gw_ hg HB; replace HB := sb_ HB hb; clear hb hbox hg) | ((with_reducible refine gate_dst (N := 4) rfl ?_); refine bx_ 4 #[.int .i64 a1_0, .int .i64 a1_1] 79 ?_; intro gb431 hg w13 hbox hb; have BK431 := Aside0.mk (hbox); have GW431 := gw_ hg HB; have GE431 := gw_ hg HB; replace HB := sb_ HB hb; have NB430_431 := nl_ hg BK430; have NB431_430 := ng_ hg BK430; replace BK430 := kb_ BK430 hb; clear hb hbox hg; have hnb14 := NB430_431.out; have hnc14 := NB431_430.out; have hcz15_0 := cz_ BK430 0 (.slice A0_0 l0_0.length c0_0); have hcz15_1 := cz_ BK430 1 (.int .i64 a0_1); have hfz15_0 := blk_frozen BK430.out 0; have hfz15_1 := blk_frozen BK430.out 1; have hcz16_0 := cz_ BK431 0 (.int .i64 a1_0); have hcz16_1 := cz_ BK431 1 (.int .i64 a1_1); have hfz16_0 := blk_frozen BK431.out 0; have hfz16_1 := blk_frozen BK431.out 1) | ((with_reducible refine gate_callee (f := 70) rfl ?_); refine gl_ 15 Tryd.func70 #[.agg #[.slice A0_0 l0_0.length c0_0, .int .i64 a0_1], .int .i64 a1_0] ?_; (with_reducible refine (midrangeref04_known.calls k _ _ l0_0 a0_1 a1_0 t432 t433 _ ?side1 ?side2 A4.out).mono ?_); (case side1 => exact pc_ (Kd.C_below HR0_0.out HB.out)); (case side2 => exact HC0_0.out); rintro e w17 ⟨rfl, hb⟩; refine ⟨_, rfl, ?_⟩; replace BK430 := kb_ BK430 hb; replace BK431 := kb_ BK431 hb; replace HB := sb_ HB hb; (try clear hb); (try clear hb2); (try clear hk); (try clear hi); have hcz18_0 := cz_ BK430 0 (.slice A0_0 l0_0.length c0_0); have hcz18_1 := cz_ BK430 1 (.int .i64 a0_1); have hfz18_0 := blk_frozen BK430.out 0; have hfz18_1 := blk_frozen BK430.out 1; have p434 : 0 ≤ (t432 : Int) := ct_; have q434 : t432 < (l0_0.length : Int) := ct_; obtain ⟨ad434, e434, hx434_0, hx434_1⟩ := at_T46 HR0_0.out t432 p434 q434; cases e434; replace hx434_0 := pw_cell_below HB.out hx434_0; replace hx434_1 := pw_cell_below HB.out hx434_1; replace p434 := eq_true p434; replace q434 := eq_true q434; have hcz19_0 := cz_ BK431 0 (.int .i64 a1_0); have hcz19_1 := cz_ BK431 1 (.int .i64 a1_1); have hfz19_0 := blk_frozen BK431.out 0; have hfz19_1 := blk_frozen BK431.out 1) | ((with_reducible refine gate_callee (f := 68) rfl ?_); refine gl_ 32 Tryd.func68 #[.int .i64 a1_1, .int .i64 0, .int .i64 (((rd_T46 l0_0 t432).f1).size : Int)] ?_; (with_reducible refine (midrangebase_Within.calls a1_1 0 (((rd_T46 l0_0 t432).f1).size : Int) true _ A8.out).mono ?_); rintro e w' ⟨rfl, ⟨nd, rfl⟩⟩; refine ⟨_, rfl, ?_⟩) | (go_at_call 68; (with_reducible refine (midrangebase_Within.calls a2 0 (wrap64 ((((rd_T46 l0_0 t432).f1).size : Int) - a1_1)) true _ A10.out).mono ?_); rintro e w' ⟨rfl, ⟨nd, rfl⟩⟩))
      go_ret2
      exact ⟨er_, pb_ HB⟩
     replace c11 := Bool.eq_false_iff.mpr c11
     subst c11
     have H1 : (some (t432, 3)) = some (r1, r2) := by rw [if_neg (show ¬ (false = true) by decide)] at H; exact H
     clear H
     have H := H1
     clear H1
     simp only [Option.some.injEq, Prod.mk.injEq] at H
     obtain ⟨rfl, rfl⟩ := H
     go_enter Tryd.func72, Tryd.ntmps72
     go_wp2_with (first | ((with_reducible refine gate_dst (N := 3) rfl ?_); refine bx_ 3 #[.slice A0_0 l0_0.length c0_0, .int .i64 a0_1] 24 ?_; intro gb430 hg w20 hbox hb; have BK430 := Aside0.mk (hbox); have GW430 := gw_ hg HB; have GE430 := gw_ hg HB; replace HB := sb_ HB hb; clear hb hbox hg) | ((with_reducible refine gate_dst (N := 4) rfl ?_); refine bx_ 4 #[.int .i64 a1_0, .int .i64 a1_1] 79 ?_; intro gb431 hg w21 hbox hb; have BK431 := Aside0.mk (hbox); have GW431 := gw_ hg HB; have GE431 := gw_ hg HB; replace HB := sb_ HB hb; have NB430_431 := nl_ hg BK430; have NB431_430 := ng_ hg BK430; replace BK430 := kb_ BK430 hb; clear hb hbox hg; have hnb22 := NB430_431.out; have hnc22 := NB431_430.out; have hcz23_0 := cz_ BK430 0 (.slice A0_0 l0_0.length c0_0); have hcz23_1 := cz_ BK430 1 (.int .i64 a0_1); have hfz23_0 := blk_frozen BK430.out 0; have hfz23_1 := blk_frozen BK430.out 1; have hcz24_0 := cz_ BK431 0 (.int .i64 a1_0); have hcz24_1 := cz_ BK431 1 (.int .i64 a1_1); have hfz24_0 := blk_frozen BK431.out 0; have hfz24_1 := blk_frozen BK431.out 1) | ((with_reducible refine gate_callee (f := 70) rfl ?_); refine gl_ 15 Tryd.func70 #[.agg #[.slice A0_0 l0_0.length c0_0, .int .i64 a0_1], .int .i64 a1_0] ?_; (with_reducible refine (midrangeref04_known.calls k _ _ l0_0 a0_1 a1_0 t432 t433 _ ?side1 ?side2 A4.out).mono ?_); (case side1 => exact pc_ (Kd.C_below HR0_0.out HB.out)); (case side2 => exact HC0_0.out); rintro e w25 ⟨rfl, hb⟩; refine ⟨_, rfl, ?_⟩; replace BK430 := kb_ BK430 hb; replace BK431 := kb_ BK431 hb; replace HB := sb_ HB hb; (try clear hb); (try clear hb2); (try clear hk); (try clear hi); have hcz26_0 := cz_ BK430 0 (.slice A0_0 l0_0.length c0_0); have hcz26_1 := cz_ BK430 1 (.int .i64 a0_1); have hfz26_0 := blk_frozen BK430.out 0; have hfz26_1 := blk_frozen BK430.out 1; have p434 : 0 ≤ (t432 : Int) := ct_; have q434 : t432 < (l0_0.length : Int) := ct_; obtain ⟨ad434, e434, hx434_0, hx434_1⟩ := at_T46 HR0_0.out t432 p434 q434; cases e434; replace hx434_0 := pw_cell_below HB.out hx434_0; replace hx434_1 := pw_cell_below HB.out hx434_1; replace p434 := eq_true p434; replace q434 := eq_true q434; have hcz27_0 := cz_ BK431 0 (.int .i64 a1_0); have hcz27_1 := cz_ BK431 1 (.int .i64 a1_1); have hfz27_0 := blk_frozen BK431.out 0; have hfz27_1 := blk_frozen BK431.out 1) | ((with_reducible refine gate_callee (f := 68) rfl ?_); refine gl_ 32 Tryd.func68 #[.int .i64 a1_1, .int .i64 0, .int .i64 (((rd_T46 l0_0 t432).f1).size : Int)] ?_; (with_reducible refine (midrangebase_Within.calls a1_1 0 (((rd_T46 l0_0 t432).f1).size : Int) true _ A8.out).mono ?_); rintro e w' ⟨rfl, ⟨nd, rfl⟩⟩; refine ⟨_, rfl, ?_⟩) | (go_at_call 68; (with_reducible refine (midrangebase_Within.calls a2 0 (wrap64 ((((rd_T46 l0_0 t432).f1).size : Int) - a1_1)) false _ A10.out).mono ?_); rintro e w' ⟨rfl, ⟨nd, rfl⟩⟩))
     go_ret2
     exact ⟨er_, pb_ HB⟩
    replace c9 := Bool.eq_false_iff.mpr c9
    subst c9
    have H1 : (some (t432, 3)) = some (r1, r2) := by rw [if_neg (show ¬ (false = true) by decide)] at H; exact H
    clear H
    have H := H1
    clear H1
    simp only [Option.some.injEq, Prod.mk.injEq] at H
    obtain ⟨rfl, rfl⟩ := H
    go_enter Tryd.func72, Tryd.ntmps72
    go_wp2_with (first | ((with_reducible refine gate_dst (N := 3) rfl ?_); refine bx_ 3 #[.slice A0_0 l0_0.length c0_0, .int .i64 a0_1] 24 ?_; intro gb430 hg w28 hbox hb; have BK430 := Aside0.mk (hbox); have GW430 := gw_ hg HB; have GE430 := gw_ hg HB; replace HB := sb_ HB hb; clear hb hbox hg) | ((with_reducible refine gate_dst (N := 4) rfl ?_); refine bx_ 4 #[.int .i64 a1_0, .int .i64 a1_1] 79 ?_; intro gb431 hg w29 hbox hb; have BK431 := Aside0.mk (hbox); have GW431 := gw_ hg HB; have GE431 := gw_ hg HB; replace HB := sb_ HB hb; have NB430_431 := nl_ hg BK430; have NB431_430 := ng_ hg BK430; replace BK430 := kb_ BK430 hb; clear hb hbox hg; have hnb30 := NB430_431.out; have hnc30 := NB431_430.out; have hcz31_0 := cz_ BK430 0 (.slice A0_0 l0_0.length c0_0); have hcz31_1 := cz_ BK430 1 (.int .i64 a0_1); have hfz31_0 := blk_frozen BK430.out 0; have hfz31_1 := blk_frozen BK430.out 1; have hcz32_0 := cz_ BK431 0 (.int .i64 a1_0); have hcz32_1 := cz_ BK431 1 (.int .i64 a1_1); have hfz32_0 := blk_frozen BK431.out 0; have hfz32_1 := blk_frozen BK431.out 1) | ((with_reducible refine gate_callee (f := 70) rfl ?_); refine gl_ 15 Tryd.func70 #[.agg #[.slice A0_0 l0_0.length c0_0, .int .i64 a0_1], .int .i64 a1_0] ?_; (with_reducible refine (midrangeref04_known.calls k _ _ l0_0 a0_1 a1_0 t432 t433 _ ?side1 ?side2 A4.out).mono ?_); (case side1 => exact pc_ (Kd.C_below HR0_0.out HB.out)); (case side2 => exact HC0_0.out); rintro e w33 ⟨rfl, hb⟩; refine ⟨_, rfl, ?_⟩; replace BK430 := kb_ BK430 hb; replace BK431 := kb_ BK431 hb; replace HB := sb_ HB hb; (try clear hb); (try clear hb2); (try clear hk); (try clear hi); have hcz34_0 := cz_ BK430 0 (.slice A0_0 l0_0.length c0_0); have hcz34_1 := cz_ BK430 1 (.int .i64 a0_1); have hfz34_0 := blk_frozen BK430.out 0; have hfz34_1 := blk_frozen BK430.out 1; have p434 : 0 ≤ (t432 : Int) := ct_; have q434 : t432 < (l0_0.length : Int) := ct_; obtain ⟨ad434, e434, hx434_0, hx434_1⟩ := at_T46 HR0_0.out t432 p434 q434; cases e434; replace hx434_0 := pw_cell_below HB.out hx434_0; replace hx434_1 := pw_cell_below HB.out hx434_1; replace p434 := eq_true p434; replace q434 := eq_true q434; have hcz35_0 := cz_ BK431 0 (.int .i64 a1_0); have hcz35_1 := cz_ BK431 1 (.int .i64 a1_1); have hfz35_0 := blk_frozen BK431.out 0; have hfz35_1 := blk_frozen BK431.out 1) | ((with_reducible refine gate_callee (f := 68) rfl ?_); refine gl_ 32 Tryd.func68 #[.int .i64 a1_1, .int .i64 0, .int .i64 (((rd_T46 l0_0 t432).f1).size : Int)] ?_; (with_reducible refine (midrangebase_Within.calls a1_1 0 (((rd_T46 l0_0 t432).f1).size : Int) false _ A8.out).mono ?_); rintro e w' ⟨rfl, ⟨nd, rfl⟩⟩; refine ⟨_, rfl, ?_⟩))
    go_ret2
    exact ⟨er_, pb_ HB⟩
   rw [if_neg c7] at H
   exact absurd H (by simp)
  rw [if_neg c6] at H
  exact absurd H (by simp)
 rw [if_neg c5] at H
 have c5b0 : (t433 == 0) = false := beq_eq_false_iff_ne.mpr c5
 have c5b1 : (t433 != 0) = true := bne_iff_ne.mpr c5
 simp only [Option.some.injEq, Prod.mk.injEq] at H
 obtain ⟨rfl, rfl⟩ := H
 go_enter Tryd.func72, Tryd.ntmps72
 go_wp2_with (first | ((with_reducible refine gate_dst (N := 3) rfl ?_); refine bx_ 3 #[.slice A0_0 l0_0.length c0_0, .int .i64 a0_1] 24 ?_; intro gb430 hg w36 hbox hb; have BK430 := Aside0.mk (hbox); have GW430 := gw_ hg HB; have GE430 := gw_ hg HB; replace HB := sb_ HB hb; clear hb hbox hg) | ((with_reducible refine gate_dst (N := 4) rfl ?_); refine bx_ 4 #[.int .i64 a1_0, .int .i64 a1_1] 79 ?_; intro gb431 hg w37 hbox hb; have BK431 := Aside0.mk (hbox); have GW431 := gw_ hg HB; have GE431 := gw_ hg HB; replace HB := sb_ HB hb; have NB430_431 := nl_ hg BK430; have NB431_430 := ng_ hg BK430; replace BK430 := kb_ BK430 hb; clear hb hbox hg; have hnb38 := NB430_431.out; have hnc38 := NB431_430.out; have hcz39_0 := cz_ BK430 0 (.slice A0_0 l0_0.length c0_0); have hcz39_1 := cz_ BK430 1 (.int .i64 a0_1); have hfz39_0 := blk_frozen BK430.out 0; have hfz39_1 := blk_frozen BK430.out 1; have hcz40_0 := cz_ BK431 0 (.int .i64 a1_0); have hcz40_1 := cz_ BK431 1 (.int .i64 a1_1); have hfz40_0 := blk_frozen BK431.out 0; have hfz40_1 := blk_frozen BK431.out 1) | ((with_reducible refine gate_callee (f := 70) rfl ?_); refine gl_ 15 Tryd.func70 #[.agg #[.slice A0_0 l0_0.length c0_0, .int .i64 a0_1], .int .i64 a1_0] ?_; (with_reducible refine (midrangeref04_known.calls k _ _ l0_0 a0_1 a1_0 t432 t433 _ ?side1 ?side2 A4.out).mono ?_); (case side1 => exact pc_ (Kd.C_below HR0_0.out HB.out)); (case side2 => exact HC0_0.out); rintro e w41 ⟨rfl, hb⟩; refine ⟨_, rfl, ?_⟩; replace BK430 := kb_ BK430 hb; replace BK431 := kb_ BK431 hb; replace HB := sb_ HB hb; (try clear hb); (try clear hb2); (try clear hk); (try clear hi)))
 go_ret2
 exact ⟨er_, pb_ HB⟩
def midrangebase_Patched.f (a0 : ByteArray) (a1 : Int) (a2 : ByteArray) : Option (ByteArray) := if 0 ≤ a1 then (if a1 ≤ (a0.size : Int) then (if (a1 : Int).toNat + a2.size ≤ 9223372036854775807 then (if 0 ≤ (wrap64 (a1 + (a2.size : Int))) then (if (wrap64 (a1 + (a2.size : Int))) ≤ (a0.size : Int) then (if (a1 : Int).toNat + a2.size + (a0.size - ((wrap64 (a1 + (a2.size : Int))) : Int).toNat) ≤ 9223372036854775807 then (some (((a0.extract 0 (a1 : Int).toNat) ++ a2) ++ (a0.extract ((wrap64 (a1 + (a2.size : Int))) : Int).toNat a0.size))) else (none)) else (none)) else (none)) else (none)) else (none)) else (none)
set_option maxHeartbeats 8000000 in
set_option maxRecDepth 100000 in
theorem midrangebase_Patched.calls (a0 : ByteArray) (a1 : Int) (a2 : ByteArray) (r : ByteArray) (w : World) (h : midrangebase_Patched.f a0 a1 a2 = some r) :
  Calls Tryd.prog 73 #[.string a0, .int .i64 a1, .string a2] w fun e w' => e = .returned (.string r) ∧ Drawn0 w w' := by
 have H : (if 0 ≤ a1 then (if a1 ≤ (a0.size : Int) then (if (a1 : Int).toNat + a2.size ≤ 9223372036854775807 then (if 0 ≤ (wrap64 (a1 + (a2.size : Int))) then (if (wrap64 (a1 + (a2.size : Int))) ≤ (a0.size : Int) then (if (a1 : Int).toNat + a2.size + (a0.size - ((wrap64 (a1 + (a2.size : Int))) : Int).toNat) ≤ 9223372036854775807 then (some (((a0.extract 0 (a1 : Int).toNat) ++ a2) ++ (a0.extract ((wrap64 (a1 + (a2.size : Int))) : Int).toNat a0.size))) else (none)) else (none)) else (none)) else (none)) else (none)) else (none)) = some r := h
 clear h
 by_cases c4 : 0 ≤ a1
 ·
  rw [if_pos c4] at H
  have c4b0 := eq_true c4
  have c4b1 : decide (0 ≤ a1) = true := decide_eq_true c4
  clear c4
  by_cases c5 : a1 ≤ (a0.size : Int)
  ·
   rw [if_pos c5] at H
   have c5b0 := eq_true c5
   have c5b1 : decide (a1 ≤ (a0.size : Int)) = true := decide_eq_true c5
   clear c5
   by_cases c6 : (a1 : Int).toNat + a2.size ≤ 9223372036854775807
   ·
    rw [if_pos c6] at H
    have c6b0 := eq_true c6
    have c6b1 : decide ((a1 : Int).toNat + a2.size ≤ 9223372036854775807) = true := decide_eq_true c6
    try have c6b2 : (9223372036854775807 < (a1 : Int).toNat + a2.size) = False := eq_false (Nat.not_lt.2 c6)
    clear c6
    obtain ⟨ji7, hji7⟩ : ∃ j_ : Int, (wrap64 (a1 + (a2.size : Int))) = j_ := ⟨_, rfl⟩
    replace H : (if 0 ≤ (ji7) then (if (ji7) ≤ (a0.size : Int) then (if (a1 : Int).toNat + a2.size + (a0.size - ((ji7) : Int).toNat) ≤ 9223372036854775807 then (some (((a0.extract 0 (a1 : Int).toNat) ++ a2) ++ (a0.extract ((ji7) : Int).toNat a0.size))) else (none)) else (none)) else (none)) = some r := by first | (rw [hji7] at H; exact H) | (simp only [hji7] at H ⊢; exact H)
    have hji7w : (IntKind.i64.wrap (a1 + (a2.size : Int))) = ji7 := (i64_w _).trans hji7
    by_cases c8 : 0 ≤ (ji7)
    ·
     rw [if_pos c8] at H
     have c8b0 := eq_true c8
     have c8b1 : decide (0 ≤ (ji7)) = true := decide_eq_true c8
     clear c8
     by_cases c9 : (ji7) ≤ (a0.size : Int)
     ·
      rw [if_pos c9] at H
      have c9b0 := eq_true c9
      have c9b1 : decide ((ji7) ≤ (a0.size : Int)) = true := decide_eq_true c9
      clear c9
      by_cases c10 : (a1 : Int).toNat + a2.size + (a0.size - ((ji7) : Int).toNat) ≤ 9223372036854775807
      ·
       rw [if_pos c10] at H
       have c10b0 := eq_true c10
       have c10b1 : decide ((a1 : Int).toNat + a2.size + (a0.size - ((ji7) : Int).toNat) ≤ 9223372036854775807) = true := decide_eq_true c10
       try have c10b2 : (9223372036854775807 < (a1 : Int).toNat + a2.size + (a0.size - ((ji7) : Int).toNat)) = False := eq_false (Nat.not_lt.2 c10)
       clear c10
       obtain rfl := Option.some.inj H
       go_enter Tryd.func73, Tryd.ntmps73
       go_wp2
       repeat (go_quiet (fail); try go_wp2)
       go_ret
       exact ⟨by first | rfl | (simp; done) | (simp only [← hji7] <;> (first | rfl | simp)) | (simp [*]; done), by repeat (first | exact Drawn0.refl _ | apply Drawn0.step)⟩
      rw [if_neg c10] at H
      exact absurd H (by simp)
     rw [if_neg c9] at H
     exact absurd H (by simp)
    rw [if_neg c8] at H
    exact absurd H (by simp)
   rw [if_neg c6] at H
   exact absurd H (by simp)
  rw [if_neg c5] at H
  exact absurd H (by simp)
 rw [if_neg c4] at H
 exact absurd H (by simp)
def midrangeref04_Written.f (k : Nat) (l0_0 : List (S46)) (a0_1 : Int) (a1_0 : Int) (a1_1 : Int) (a2 : ByteArray) : Option ((List (S46)) × Int × Int × ByteArray × Int) := (midrangeref04_reach.f k l0_0 a0_1 a1_0 a1_1 (a2.size : Int)).bind fun bt440 => (if bt440.2 = 0 then (if 0 ≤ bt440.1 then (if bt440.1 < (l0_0.length : Int) then ((midrangebase_Patched.f ((rd_T46 l0_0 bt440.1).f1) a1_1 a2).bind fun t443 => ((midrangeref04_with.f l0_0 a0_1 bt440.1 t443).bind fun bt444 => (some (bt444.1, bt444.2, 0, (⟨#[]⟩ : ByteArray), 0)))) else (none)) else (none)) else (some (([] : List (S46)), 0, 0, (⟨#[]⟩ : ByteArray), bt440.2)))
def midrangeref04_Written.T4 : Bool × List (List Nat × List Nat) := (true, [([], []), ([], []), ([], []), ([2], [2]), ([], []), ([3, 4], [3, 4]), ([5], [5]), ([6], [6]), ([], []), ([8], [8]), ([], []), ([7, 9, 10], [7, 9, 10]), ([0, 1, 11, 11], [0, 1, 11]), ([12], [12]), ([13, 12, 0, 1, 2, 3, 4, 5, 6, 7, 8, 9, 10, 11, 12, 13], [13])])
def midrangeref04_Written.B4 : List Nat := [0, 0, 0, 4, 0, 28, 60, 124, 0, 256, 0, 2044, 4095, 8191, 16383]
theorem midrangeref04_Written.tab4 : rtab .any (opsOf Tryd.f56 4) = midrangeref04_Written.T4 := by kernel_rfl
theorem midrangeref04_Written.bits4 : waitsOk midrangeref04_Written.T4.2 midrangeref04_Written.B4 = true := by kernel_rfl
set_option maxHeartbeats 8000000 in
set_option maxRecDepth 100000 in
theorem midrangeref04_Written.calls (k : Nat) (A0_0 : Option Addr) (c0_0 : Nat) (l0_0 : List (S46)) (a0_1 : Int) (a1_0 : Int) (a1_1 : Int) (a2 : ByteArray) (r1 : List (S46)) (r2 : Int) (r3 : Int) (r4 : ByteArray) (r5 : Int) (w : World) (hr0_0 : Kd.C k46 w A0_0 l0_0.length l0_0) (hc0_0 : l0_0.length ≤ c0_0) (h : midrangeref04_Written.f k l0_0 a0_1 a1_0 a1_1 a2 = some (r1, r2, r3, r4, r5)) :
  Calls Tryd.prog 56 #[.agg #[.slice A0_0 l0_0.length c0_0, .int .i64 a0_1], .agg #[.int .i64 a1_0, .int .i64 a1_1], .string a2] w fun e w' => ∃ v0_ : Value, e = .returned (.agg #[v0_, .int .i64 r2, .int .i64 r3, .string r4, .int .i64 r5]) ∧ Kd.R k46 46 w' w.heap.size (fun _ => True) v0_ r1 ∧ Below w.heap.size w w' := by
 have hu24 := Tryd.underlying24
 have hu79 := Tryd.underlying79
 have hu51 := Tryd.underlying51
 have HR0_0 := Aside0.mk hr0_0
 have HC0_0 := Aside0.mk hc0_0
 clear hr0_0 hc0_0
 have HB := Aside0.mk (Below.refl w.heap.size w)
 have H : ((midrangeref04_reach.f k l0_0 a0_1 a1_0 a1_1 (a2.size : Int)).bind fun bt440 => (if bt440.2 = 0 then (if 0 ≤ bt440.1 then (if bt440.1 < (l0_0.length : Int) then ((midrangebase_Patched.f ((rd_T46 l0_0 bt440.1).f1) a1_1 a2).bind fun t443 => ((midrangeref04_with.f l0_0 a0_1 bt440.1 t443).bind fun bt444 => (some (bt444.1, bt444.2, 0, (⟨#[]⟩ : ByteArray), 0)))) else (none)) else (none)) else (some (([] : List (S46)), 0, 0, (⟨#[]⟩ : ByteArray), bt440.2)))) = some (r1, r2, r3, r4, r5) := h
 clear h
 replace H := Option.bind_eq_some_iff.mp H
 obtain ⟨⟨t440, t441⟩, A40, H⟩ := H
 replace H : (if t441 = 0 then (if 0 ≤ t440 then (if t440 < (l0_0.length : Int) then ((midrangebase_Patched.f ((rd_T46 l0_0 t440).f1) a1_1 a2).bind fun t443 => ((midrangeref04_with.f l0_0 a0_1 t440 t443).bind fun bt444 => (some (bt444.1, bt444.2, 0, (⟨#[]⟩ : ByteArray), 0)))) else (none)) else (none)) else (some (([] : List (S46)), 0, 0, (⟨#[]⟩ : ByteArray), t441))) = some (r1, r2, r3, r4, r5) := H
 have A4 := Aside0.mk A40
 clear A40
 by_cases c5 : t441 = 0
 ·
  rw [if_pos c5] at H
  have c5b0 : (t441 == 0) = true := beq_iff_eq.mpr c5
  have c5b1 : (t441 != 0) = false := bne_eq_false_iff_eq.mpr c5
  clear c5
  by_cases c6 : 0 ≤ t440
  ·
   rw [if_pos c6] at H
   have c6b0 : decide (0 ≤ t440) = true := decide_eq_true c6
   clear c6
   by_cases c7 : t440 < (l0_0.length : Int)
   ·
    rw [if_pos c7] at H
    have c7b0 : decide (t440 < (l0_0.length : Int)) = true := decide_eq_true c7
    clear c7
    replace H := Option.bind_eq_some_iff.mp H
    obtain ⟨t443, A80, H⟩ := H
    replace H : ((midrangeref04_with.f l0_0 a0_1 t440 t443).bind fun bt444 => (some (bt444.1, bt444.2, 0, (⟨#[]⟩ : ByteArray), 0))) = some (r1, r2, r3, r4, r5) := H
    have A8 := Aside0.mk A80
    clear A80
    replace H := Option.bind_eq_some_iff.mp H
    obtain ⟨⟨t444, t447⟩, A90, H⟩ := H
    replace H : (some (t444, t447, 0, (⟨#[]⟩ : ByteArray), 0)) = some (r1, r2, r3, r4, r5) := H
    have A9 := Aside0.mk A90
    clear A90
    simp only [Option.some.injEq, Prod.mk.injEq] at H
    obtain ⟨rfl, rfl, rfl, rfl, rfl⟩ := H
    go_enter Tryd.func56, Tryd.ntmps56
    try go_wp2_with (first | ((with_reducible refine gate_dst (N := 3) rfl ?_); refine bx_ 3 #[.slice A0_0 l0_0.length c0_0, .int .i64 a0_1] 24 ?_; intro gb437 hg w10 hbox hb; have BK437 := Aside0.mk (hbox); have GW437 := gw_ hg HB; have GE437 := gw_ hg HB; replace HB := sb_ HB hb; clear hb hbox hg) | ((with_reducible refine gate_dst (N := 4) rfl ?_); refine bx_ 4 #[.int .i64 a1_0, .int .i64 a1_1] 79 ?_; intro gb438 hg w11 hbox hb; have BK438 := Aside0.mk (hbox); have GW438 := gw_ hg HB; have GE438 := gw_ hg HB; replace HB := sb_ HB hb; have NB437_438 := nl_ hg BK437; have NB438_437 := ng_ hg BK437; replace BK437 := kb_ BK437 hb; clear hb hbox hg) | ((with_reducible refine gate_dst (N := 6) rfl ?_); refine bx_ 6 #[.slice none 0 0, .int .i64 0, .int .i64 0, .string (⟨#[]⟩ : ByteArray), .int .i64 0] 51 ?_; intro gb439 hg w12 hbox hb; have BK439 := Aside0.mk (hbox); have GW439 := gw_ hg HB; have GE439 := gw_ hg HB; replace HB := sb_ HB hb; have NB437_439 := nl_ hg BK437; have NB439_437 := ng_ hg BK437; replace BK437 := kb_ BK437 hb; have NB438_439 := nl_ hg BK438; have NB439_438 := ng_ hg BK438; replace BK438 := kb_ BK438 hb; clear hb hbox hg; have hnb13 := NB437_438.out; have hnc13 := NB438_437.out; have hnb14 := NB437_439.out; have hnc14 := NB439_437.out; have hcz15_0 := cz_ BK437 0 (.slice A0_0 l0_0.length c0_0); have hcz15_1 := cz_ BK437 1 (.int .i64 a0_1); have hfz15_0 := blk_frozen BK437.out 0; have hfz15_1 := blk_frozen BK437.out 1; have hnb16 := NB438_439.out; have hnc16 := NB439_438.out; have hcz17_0 := cz_ BK438 0 (.int .i64 a1_0); have hcz17_1 := cz_ BK438 1 (.int .i64 a1_1); have hfz17_0 := blk_frozen BK438.out 0; have hfz17_1 := blk_frozen BK438.out 1) | ((with_reducible refine gate_callee (f := 72) rfl ?_); refine gl_ 14 Tryd.func72 #[.agg #[.slice A0_0 l0_0.length c0_0, .int .i64 a0_1], .agg #[.int .i64 a1_0, .int .i64 a1_1], .int .i64 (a2.size : Int)] ?_; (with_reducible refine (midrangeref04_reach.calls k _ _ l0_0 a0_1 a1_0 a1_1 (a2.size : Int) t440 t441 _ ?side1 ?side2 A4.out).mono ?_); (case side1 => exact pc_ (Kd.C_below HR0_0.out HB.out)); (case side2 => exact HC0_0.out); rintro e w18 ⟨rfl, hb⟩; refine ⟨_, rfl, ?_⟩; replace BK437 := kb_ BK437 hb; replace BK438 := kb_ BK438 hb; replace BK439 := kb_ BK439 hb; replace HB := sb_ HB hb; (try clear hb); (try clear hb2); (try clear hk); (try clear hi)))
    replace BK437 := Aside0.mk (blk_drew BK437.out)
    replace BK438 := Aside0.mk (blk_drew BK438.out)
    replace BK439 := Aside0.mk (blk_drew BK439.out)
    replace HB := Aside0.mk (below_drew1 HB.out)
    have p442 : 0 ≤ (t440 : Int) := ct_
    have q442 : t440 < (l0_0.length : Int) := ct_
    obtain ⟨ad442, e442, hx442_0, hx442_1⟩ := at_T46 HR0_0.out t440 p442 q442
    have hw442_1 := hx442_1
    have hw442_0 := hx442_0
    cases e442
    replace hx442_0 := pw_cell_below HB.out hx442_0
    replace hx442_1 := pw_cell_below HB.out hx442_1
    replace p442 := eq_true p442
    replace q442 := eq_true q442
    refine start_ (n := 15) (S := fun w' => w'.cell? ⟨gb437, 0, none⟩ = some (.slice (some ad442) l0_0.length c0_0) ∧ w'.cell? ⟨gb437, 1, none⟩ = some (.int .i64 a0_1) ∧ w'.cell? ⟨gb438, 0, none⟩ = some (.int .i64 a1_0) ∧ w'.cell? ⟨gb438, 1, none⟩ = some (.int .i64 a1_1) ∧ w'.cell? (ad442.add ((t440).toNat * 2)) = some (.int .i64 ((rd_T46 l0_0 t440).f0)) ∧ w'.cell? ⟨(ad442.add ((t440).toNat * 2)).block, (ad442.add ((t440).toNat * 2)).off + 1, none⟩ = some (.string ((rd_T46 l0_0 t440).f1))) (ds := []) #[false, false, false, false, false, false, false, false, false, false, false, false, false, false, false] (by kernel_rfl) rfl rfl ⟨cy_ BK437 0, cy_ BK437 1, cy_ BK438 0, cy_ BK438 1, (pw_cell_below HB.out hw442_0), (pw_cell_below HB.out hw442_1)⟩ (fun hHeld => ?_); refine with_tabW midrangeref04_Written.tab4 midrangeref04_Written.bits4 (fun HT_ HW_ => ?_)
    generalize w18.drew = w19 at BK437 BK438 BK439 HB hx442_0 hx442_1 hHeld ⊢
    refine pu_ 1 22 HT_ ?_
    refine pu_ 2 23 HT_ ?_
    refine pu_ 4 25 HT_ ?_
    refine pu_ 8 29 HT_ ?_
    refine pu_ 10 31 HT_ ?_
    refine tk_ 0 21 HT_ HW_ hHeld rfl (Or.inl ⟨by rfl, by rintro w' ⟨s0, s1, s2, s3, s4, s5⟩; go_simp; with_reducible rfl⟩) ?_
    refine tk_ 3 24 HT_ HW_ hHeld rfl (Or.inl ⟨by rfl, by rintro w' ⟨s0, s1, s2, s3, s4, s5⟩; go_simp; with_reducible rfl⟩) ?_
    refine pu_ 5 26 HT_ ?_
    refine pu_ 6 27 HT_ ?_
    refine tk_ 7 28 HT_ HW_ hHeld rfl (Or.inl ⟨by rfl, by rintro w' ⟨s0, s1, s2, s3, s4, s5⟩; go_simp; with_reducible rfl⟩) ?_
    refine tk_ 9 30 HT_ HW_ hHeld rfl (Or.inl ⟨by rfl, by rintro w' ⟨s0, s1, s2, s3, s4, s5⟩; go_simp; with_reducible rfl⟩) ?_
    refine one_ (i := 11) (N := some 32) #[true, true, true, true, true, true, true, true, true, true, true, true, false, false, false] rfl rfl (one_of HT_.out (by kernel_rfl)) (by decide) (fun K hK => ?_)
    refine goes_ Tryd.func73 (by kernel_rfl) rfl #[.string ((rd_T46 l0_0 t440).f1), .int .i64 a1_1, .string a2] (by rfl) rfl rfl (by (try simp only [List.map_toArray, List.map_cons, List.map_nil]); first | done | rfl | (simp only [List.length_drop, List.length_take]; rfl)) ?_
    with_reducible refine (midrangebase_Patched.calls ((rd_T46 l0_0 t440).f1) a1_1 a2 t443 _ A8.out).mono ?_
    rintro e w' ⟨rfl, ⟨nd, rfl⟩⟩
    refine ⟨_, rfl, ?_⟩
    refine hK.out _ _ ⟨cy_ BK437 0, cy_ BK437 1, cy_ BK438 0, cy_ BK438 1, (pw_cell_below HB.out hw442_0), (pw_cell_below HB.out hw442_1)⟩ (fun hHeld => ?_)
    clear hK K
    refine nn_ 32 ?_
    refine one_ (i := 12) (N := some 33) #[true, true, true, true, true, true, true, true, true, true, true, true, true, false, false] rfl rfl (one_of HT_.out (by kernel_rfl)) (by decide) (fun K hK => ?_)
    refine goes_ Tryd.func71 (by kernel_rfl) rfl #[.agg #[.slice (some ad442) l0_0.length c0_0, .int .i64 a0_1], .int .i64 t440, .string t443] (by rfl) rfl rfl (by (try simp only [List.map_toArray, List.map_cons, List.map_nil]); first | done | rfl | (simp only [List.length_drop, List.length_take]; rfl)) ?_
    with_reducible refine (midrangeref04_with.calls _ _ l0_0 a0_1 t440 t443 t444 t447 _ ?side1 ?side2 A9.out).mono ?_
    (case side1 => exact pc_ (Kd.C_below HR0_0.out (pb_ HB)))
    (case side2 => exact HC0_0.out)
    rintro e w20 ⟨v445, rfl, ho0, hb⟩
    refine ⟨_, rfl, ?_⟩
    have HO446 := Aside0.mk (Kd.R_lower ho0 (below_size (pb_ HB)))
    replace BK437 := kb_ BK437 hb
    replace BK438 := kb_ BK438 hb
    replace BK439 := kb_ BK439 hb
    replace HB := sb_ HB hb
    (try clear hb)
    (try clear hb2)
    (try clear hk)
    (try clear hi)
    (try clear ho0)
    obtain ⟨Ao21, co21, eo21⟩ := Kd.R_slice HO446.out
    (first | subst eo21 | (injection eo21 with f1_ f2_ f3_; have f4_ := f1_.symm; have f5_ := f3_.symm; clear f1_ f2_ f3_; subst f4_; subst f5_))
    refine hK.out _ _ ⟨cy_ BK437 0, cy_ BK437 1, cy_ BK438 0, cy_ BK438 1, (pw_cell_below HB.out hw442_0), (pw_cell_below HB.out hw442_1)⟩ (fun hHeld => ?_)
    clear hK K
    refine nn_ 33 ?_
    refine pu_ 13 34 HT_ ?_
    refine one_ (i := 14) (N := none) #[true, true, true, true, true, true, true, true, true, true, true, true, true, true, true] rfl rfl (one_of HT_.out (by kernel_rfl)) (by decide) (fun K hK => ?_)
    have hs22 : w20.cell? ⟨gb439, 0, none⟩ = some (.slice none 0 0) := (blk_cell BK439.out 0).trans rfl
    have hfs22 := blk_frozen BK439.out 0
    have hns22_0 := NB437_439.out
    have hns22_1 := NB438_439.out
    have hms22_0 := NB439_437.out
    have hms22_1 := NB439_438.out
    have hs23 : w20.cell? ⟨gb439, 1, none⟩ = some (.int .i64 0) := (blk_cell BK439.out 1).trans rfl
    have hfs23 := blk_frozen BK439.out 1
    have hns23_0 := NB437_439.out
    have hns23_1 := NB438_439.out
    have hms23_0 := NB439_437.out
    have hms23_1 := NB439_438.out
    have hs24 : w20.cell? ⟨gb439, 2, none⟩ = some (.int .i64 0) := (blk_cell BK439.out 2).trans rfl
    have hfs24 := blk_frozen BK439.out 2
    have hns24_0 := NB437_439.out
    have hns24_1 := NB438_439.out
    have hms24_0 := NB439_437.out
    have hms24_1 := NB439_438.out
    have hs25 : w20.cell? ⟨gb439, 3, none⟩ = some (.string (⟨#[]⟩ : ByteArray)) := (blk_cell BK439.out 3).trans rfl
    have hfs25 := blk_frozen BK439.out 3
    have hns25_0 := NB437_439.out
    have hns25_1 := NB438_439.out
    have hms25_0 := NB439_437.out
    have hms25_1 := NB439_438.out
    have hs26 : w20.cell? ⟨gb439, 4, none⟩ = some (.int .i64 0) := (blk_cell BK439.out 4).trans rfl
    have hfs26 := blk_frozen BK439.out 4
    have hns26_0 := NB437_439.out
    have hns26_1 := NB438_439.out
    have hms26_0 := NB439_437.out
    have hms26_1 := NB439_438.out
    refine skip_ (w1 := ?_) (by rfl) rfl ?_ ?_
    rotate_left
    ·
     go_simp
     rfl
    refine hK.out _ _ ⟨((cell_far (p := ⟨gb439, _, none⟩) NB437_439.out _).trans (((cell_far (p := ⟨gb439, _, none⟩) NB437_439.out _).trans (((cell_far (p := ⟨gb439, _, none⟩) NB437_439.out _).trans (((cell_far (p := ⟨gb439, _, none⟩) NB437_439.out _).trans (((cell_far (p := ⟨gb439, _, none⟩) NB437_439.out _).trans (hHeld.1)))))))))), ((cell_far (p := ⟨gb439, _, none⟩) NB437_439.out _).trans (((cell_far (p := ⟨gb439, _, none⟩) NB437_439.out _).trans (((cell_far (p := ⟨gb439, _, none⟩) NB437_439.out _).trans (((cell_far (p := ⟨gb439, _, none⟩) NB437_439.out _).trans (((cell_far (p := ⟨gb439, _, none⟩) NB437_439.out _).trans (hHeld.2.1)))))))))), ((cell_far (p := ⟨gb439, _, none⟩) NB438_439.out _).trans (((cell_far (p := ⟨gb439, _, none⟩) NB438_439.out _).trans (((cell_far (p := ⟨gb439, _, none⟩) NB438_439.out _).trans (((cell_far (p := ⟨gb439, _, none⟩) NB438_439.out _).trans (((cell_far (p := ⟨gb439, _, none⟩) NB438_439.out _).trans (hHeld.2.2.1)))))))))), ((cell_far (p := ⟨gb439, _, none⟩) NB438_439.out _).trans (((cell_far (p := ⟨gb439, _, none⟩) NB438_439.out _).trans (((cell_far (p := ⟨gb439, _, none⟩) NB438_439.out _).trans (((cell_far (p := ⟨gb439, _, none⟩) NB438_439.out _).trans (((cell_far (p := ⟨gb439, _, none⟩) NB438_439.out _).trans (hHeld.2.2.2.1)))))))))), ((cell_far (p := ⟨gb439, _, none⟩) (nf_ hw442_0 GW439) _).trans (((cell_far (p := ⟨gb439, _, none⟩) (nf_ hw442_0 GW439) _).trans (((cell_far (p := ⟨gb439, _, none⟩) (nf_ hw442_0 GW439) _).trans (((cell_far (p := ⟨gb439, _, none⟩) (nf_ hw442_0 GW439) _).trans (((cell_far (p := ⟨gb439, _, none⟩) (nf_ hw442_0 GW439) _).trans (hHeld.2.2.2.2.1)))))))))), ((cell_far (p := ⟨gb439, _, none⟩) (nf_ hw442_1 GW439) _).trans (((cell_far (p := ⟨gb439, _, none⟩) (nf_ hw442_1 GW439) _).trans (((cell_far (p := ⟨gb439, _, none⟩) (nf_ hw442_1 GW439) _).trans (((cell_far (p := ⟨gb439, _, none⟩) (nf_ hw442_1 GW439) _).trans (((cell_far (p := ⟨gb439, _, none⟩) (nf_ hw442_1 GW439) _).trans (hHeld.2.2.2.2.2))))))))))⟩ (fun hHeld => ?_)
    clear hK K
    refine done_ (done_of HT_.out (by kernel_rfl)) ?_
    try go_wp2
    refine bodyPost_ret (results_cell_row rfl _ _ gb439 51 #[.slice Ao21 t444.length co21, .int .i64 t447, .int .i64 0, .string (⟨#[]⟩ : ByteArray), .int .i64 0] (0, 0) _ rfl (bq_ BK439) Tryd.underlying51 rfl (by kernel_rfl)) rfl ?_
    exact ⟨_, er_, by (with_reducible repeat (first | apply Kd.R_alloc | apply Kd.R_drewN | apply Kd.R_drew)); exact Kd.R_mono (Kd.R_far (p := ⟨gb439, 4, none⟩) (Kd.R_far (p := ⟨gb439, 3, none⟩) (Kd.R_far (p := ⟨gb439, 2, none⟩) (Kd.R_far (p := ⟨gb439, 1, none⟩) (Kd.R_far (p := ⟨gb439, 0, none⟩) (Kd.R_types HO446.out BK439.out (by decide)) (fun _ hk => hk.2) (.slice Ao21 t444.length co21)) (fun _ hk => hk.2) (.int .i64 t447)) (fun _ hk => hk.2) (.int .i64 0)) (fun _ hk => hk.2) (.string (⟨#[]⟩ : ByteArray))) (fun _ hk => hk.2) (.int .i64 0)) (fun _ hk => trivial), pb_ HB⟩
   rw [if_neg c7] at H
   exact absurd H (by simp)
  rw [if_neg c6] at H
  exact absurd H (by simp)
 rw [if_neg c5] at H
 have c5b0 : (t441 == 0) = false := beq_eq_false_iff_ne.mpr c5
 have c5b1 : (t441 != 0) = true := bne_iff_ne.mpr c5
 simp only [Option.some.injEq, Prod.mk.injEq] at H
 obtain ⟨rfl, rfl, rfl, rfl, rfl⟩ := H
 go_enter Tryd.func56, Tryd.ntmps56
 go_wp2_with (first | ((with_reducible refine gate_dst (N := 3) rfl ?_); refine bx_ 3 #[.slice A0_0 l0_0.length c0_0, .int .i64 a0_1] 24 ?_; intro gb437 hg w27 hbox hb; have BK437 := Aside0.mk (hbox); have GW437 := gw_ hg HB; have GE437 := gw_ hg HB; replace HB := sb_ HB hb; clear hb hbox hg) | ((with_reducible refine gate_dst (N := 4) rfl ?_); refine bx_ 4 #[.int .i64 a1_0, .int .i64 a1_1] 79 ?_; intro gb438 hg w28 hbox hb; have BK438 := Aside0.mk (hbox); have GW438 := gw_ hg HB; have GE438 := gw_ hg HB; replace HB := sb_ HB hb; have NB437_438 := nl_ hg BK437; have NB438_437 := ng_ hg BK437; replace BK437 := kb_ BK437 hb; clear hb hbox hg) | ((with_reducible refine gate_dst (N := 6) rfl ?_); refine bx_ 6 #[.slice none 0 0, .int .i64 0, .int .i64 0, .string (⟨#[]⟩ : ByteArray), .int .i64 0] 51 ?_; intro gb439 hg w29 hbox hb; have BK439 := Aside0.mk (hbox); have GW439 := gw_ hg HB; have GE439 := gw_ hg HB; replace HB := sb_ HB hb; have NB437_439 := nl_ hg BK437; have NB439_437 := ng_ hg BK437; replace BK437 := kb_ BK437 hb; have NB438_439 := nl_ hg BK438; have NB439_438 := ng_ hg BK438; replace BK438 := kb_ BK438 hb; clear hb hbox hg; have hnb30 := NB437_438.out; have hnc30 := NB438_437.out; have hnb31 := NB437_439.out; have hnc31 := NB439_437.out; have hcz32_0 := cz_ BK437 0 (.slice A0_0 l0_0.length c0_0); have hcz32_1 := cz_ BK437 1 (.int .i64 a0_1); have hfz32_0 := blk_frozen BK437.out 0; have hfz32_1 := blk_frozen BK437.out 1; have hnb33 := NB438_439.out; have hnc33 := NB439_438.out; have hcz34_0 := cz_ BK438 0 (.int .i64 a1_0); have hcz34_1 := cz_ BK438 1 (.int .i64 a1_1); have hfz34_0 := blk_frozen BK438.out 0; have hfz34_1 := blk_frozen BK438.out 1) | ((with_reducible refine gate_callee (f := 72) rfl ?_); refine gl_ 14 Tryd.func72 #[.agg #[.slice A0_0 l0_0.length c0_0, .int .i64 a0_1], .agg #[.int .i64 a1_0, .int .i64 a1_1], .int .i64 (a2.size : Int)] ?_; (with_reducible refine (midrangeref04_reach.calls k _ _ l0_0 a0_1 a1_0 a1_1 (a2.size : Int) t440 t441 _ ?side1 ?side2 A4.out).mono ?_); (case side1 => exact pc_ (Kd.C_below HR0_0.out HB.out)); (case side2 => exact HC0_0.out); rintro e w35 ⟨rfl, hb⟩; refine ⟨_, rfl, ?_⟩; replace BK437 := kb_ BK437 hb; replace BK438 := kb_ BK438 hb; replace BK439 := kb_ BK439 hb; replace HB := sb_ HB hb; (try clear hb); (try clear hb2); (try clear hk); (try clear hi); have hcz36_0 := cz_ BK439 0 (.slice none 0 0); have hcz36_1 := cz_ BK439 1 (.int .i64 0); have hcz36_2 := cz_ BK439 2 (.int .i64 0); have hcz36_3 := cz_ BK439 3 (.string (⟨#[]⟩ : ByteArray)); have hcz36_4 := cz_ BK439 4 (.int .i64 0); have hfz36_0 := blk_frozen BK439.out 0; have hfz36_1 := blk_frozen BK439.out 1; have hfz36_2 := blk_frozen BK439.out 2; have hfz36_3 := blk_frozen BK439.out 3; have hfz36_4 := blk_frozen BK439.out 4))
 refine bodyPost_ret (results_cell_row rfl _ _ gb439 51 #[.slice none 0 0, .int .i64 0, .int .i64 0, .string (⟨#[]⟩ : ByteArray), .int .i64 t441] (0, 0) _ rfl (bq_ BK439) Tryd.underlying51 rfl (by kernel_rfl)) rfl ?_
 exact ⟨_, er_, by first | exact Kd.R_nil _ _ _ _ _ | exact Kd.N_nil _ _ _ _ _ | exact Kd.V_nil _ _ _ _ _ | exact Kd.Q_nil _ _ _ _ _ | exact Kd.S_nil _ _ _ _ _, pb_ HB⟩
end Go.Proofs.YtoabahlaicgmjaaDoor.X
end
