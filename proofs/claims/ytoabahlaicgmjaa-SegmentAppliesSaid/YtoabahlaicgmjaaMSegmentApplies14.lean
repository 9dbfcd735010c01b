-- Texts of this claim joined by merge.py, a program of its author; what this claim does not reach is left out.
import Derived.Test.YtoabahlaicgmjaaMSegmentApplies13
section
namespace Go.Proofs.Ytoabahlaicgmjaa.X
open Go.Proofs.Ytoabahlaicgmjaa.XW Go.Proofs.Ytoabahlaicgmjaa.XS
open Go.RowKit Go.Proofs.YtoabahlaicgmjaaW.PrintWords Go.Proofs.YtoabahlaicgmjaaW.PrintLast Go.Proofs.YtoabahlaicgmjaaW.PrintMore
attribute [local go_sem] max2_int min2_int max_two min_two max_three min_three max_four min_four   -- for this text's walks alone
set_option linter.unusedVariables false
set_option linter.unusedSimpArgs false

/-! ### midrangelaw04_SegmentApplies: function 8 -/
def midrangelaw04_SegmentApplies.j0 : Nat → List (S66) → Bool → List (S56) → Int → Option (Bool)
  | 0, _, _, _, _ => none
  | k + 1, x1, x18, x673000, x673001 => if x18 = true then (some true) else ((midrangeref04_Own.f x673000 x673001).bind fun bt676 => ((midrangeref04_OwnOps.f x1).bind fun t680 => ((segment_Applied.f k bt676.1 bt676.2 t680).bind fun bt683 => ((midrangeref04_Applied.f k x673000 x673001 x1).bind fun bt690 => ((midrangelaw04_is.f k bt683.1 bt683.2.1 bt683.2.2.2 bt690.1 bt690.2.1 bt690.2.2.1 bt690.2.2.2.1 bt690.2.2.2.2).bind fun t698 => (if t698 = true then (some (bt683.2.2.1 == bt690.2.2.1)) else (some false)))))))
def midrangelaw04_SegmentApplies.f (k : Nat) (l0_0 : List (S56)) (a0_1 : Int) (l1 : List (S66)) : Option (Bool) := (midrangelaw04_awake.f k).bind fun t673 => (if t673 = true then ((midrangelaw04_few.f k l0_0 a0_1).bind fun t674 => (if t674 = true then ((midrangelaw04_light.f k l1).bind fun t675 => (midrangelaw04_SegmentApplies.j0 k l1 (!t675) l0_0 a0_1)) else (midrangelaw04_SegmentApplies.j0 k l1 true l0_0 a0_1))) else (some false))
set_option maxHeartbeats 8000000 in
set_option maxRecDepth 100000 in
theorem midrangelaw04_SegmentApplies.calls (k : Nat) (A0_0 : Option Addr) (c0_0 : Nat) (l0_0 : List (S56)) (a0_1 : Int) (A1 : Option Addr) (c1 : Nat) (l1 : List (S66)) (r : Bool) (w : World) (hr0_0 : Kd.C k56 w A0_0 l0_0.length l0_0) (hc0_0 : l0_0.length ≤ c0_0) (hr1 : Kd.C k66 w A1 l1.length l1) (hc1 : l1.length ≤ c1) (h : midrangelaw04_SegmentApplies.f k l0_0 a0_1 l1 = some r) :
    Calls Try.prog 8 #[.agg #[.slice A0_0 l0_0.length c0_0, .int .i64 a0_1], .slice A1 l1.length c1] w fun e w' => e = .returned (.bool r) ∧ Below w.heap.size w w' := by
  have hu24 := Try.underlying24
  have hu34 := Try.underlying34
  have HR0_0 := Aside0.mk hr0_0
  have HC0_0 := Aside0.mk hc0_0
  clear hr0_0 hc0_0
  have HR1 := Aside0.mk hr1
  have HC1 := Aside0.mk hc1
  clear hr1 hc1
  have HB := Aside0.mk (Below.refl w.heap.size w)
  have H : ((midrangelaw04_awake.f k).bind fun t673 => (if t673 = true then ((midrangelaw04_few.f k l0_0 a0_1).bind fun t674 => (if t674 = true then ((midrangelaw04_light.f k l1).bind fun t675 => (midrangelaw04_SegmentApplies.j0 k l1 (!t675) l0_0 a0_1)) else (midrangelaw04_SegmentApplies.j0 k l1 true l0_0 a0_1))) else (some false))) = some r := h
  clear h
  replace H := Option.bind_eq_some_iff.mp H
  obtain ⟨t673, A30, H⟩ := H
  replace H : (if t673 = true then ((midrangelaw04_few.f k l0_0 a0_1).bind fun t674 => (if t674 = true then ((midrangelaw04_light.f k l1).bind fun t675 => (midrangelaw04_SegmentApplies.j0 k l1 (!t675) l0_0 a0_1)) else (midrangelaw04_SegmentApplies.j0 k l1 true l0_0 a0_1))) else (some false)) = some r := H
  have A3 := Aside0.mk A30
  clear A30
  by_cases c4 : t673 = true
  · subst c4
    have H1 : ((midrangelaw04_few.f k l0_0 a0_1).bind fun t674 => (if t674 = true then ((midrangelaw04_light.f k l1).bind fun t675 => (midrangelaw04_SegmentApplies.j0 k l1 (!t675) l0_0 a0_1)) else (midrangelaw04_SegmentApplies.j0 k l1 true l0_0 a0_1))) = some r := by rw [if_pos rfl] at H; exact H
    clear H
    have H := H1
    clear H1
    have HC5 := Aside0.mk H
    clear H
    go_enter Try.func8, Try.ntmps8
    go_upto_region 3 with (first | ((with_reducible refine gate_dst (N := 2) rfl ?_); refine box_event ?hg (N := 2) ?hd (cs := #[.slice A0_0 l0_0.length c0_0, .int .i64 a0_1]) (t := 24) ?hr ?_; (case hd => rfl); (case hg => rfl); (case hr => first | (go_simp; done) | (go_simp; rfl)); intro gb672 hg w6 hbox hb; have BK672 := Aside0.mk (hbox); have GW672 := gw_ hg HB; have GE672 := gw_ hg HB; replace HB := sb_ HB hb; clear hb hbox hg) | ((with_reducible refine gate_callee (f := 10) rfl ?_); refine goesL_ (some 9) rfl rfl Try.func10 (by kernel_rfl) rfl #[] rfl (by (try simp only [List.map_toArray, List.map_cons, List.map_nil]); first | done | rfl | (simp only [List.length_drop, List.length_take]; rfl)) ?_; (with_reducible refine (midrangelaw04_awake.calls k  true _ A3.out).mono ?_); rintro e w7 ⟨rfl, hb⟩; refine ⟨_, rfl, ?_⟩; replace BK672 := kb_ BK672 hb; replace HB := sb_ HB hb; (try clear hb); (try clear hb2); (try clear hk); (try clear hi)))
    (try simp only [Act.put, List.setIfInBounds_toArray, List.set_cons_zero, List.set_cons_succ])
    go_cut [18] (fun v18 wc => ∃ (kq : Nat) (x18_4 : Bool), v18 = .bool x18_4 ∧ Aside0 (midrangelaw04_SegmentApplies.j0 kq l1 x18_4 l0_0 a0_1 = some r) ∧ Aside0 (kq ≤ k) ∧ Aside0 (wc.heap[gb672]? = some (.cells #[(.slice A0_0 l0_0.length c0_0), .int .i64 a0_1] 24 (0, 0))) ∧ Aside0 (Below w.heap.size w wc))
    case first =>
      have H := HC5.out
      clear HC5
      replace H := Option.bind_eq_some_iff.mp H
      obtain ⟨t674, A80, H⟩ := H
      replace H : (if t674 = true then ((midrangelaw04_light.f k l1).bind fun t675 => (midrangelaw04_SegmentApplies.j0 k l1 (!t675) l0_0 a0_1)) else (midrangelaw04_SegmentApplies.j0 k l1 true l0_0 a0_1)) = some r := H
      have A8 := Aside0.mk A80
      clear A80
      by_cases c9 : t674 = true
      · subst c9
        have H1 : ((midrangelaw04_light.f k l1).bind fun t675 => (midrangelaw04_SegmentApplies.j0 k l1 (!t675) l0_0 a0_1)) = some r := by rw [if_pos rfl] at H; exact H
        clear H
        have H := H1
        clear H1
        replace H := Option.bind_eq_some_iff.mp H
        obtain ⟨t675, A100, H⟩ := H
        replace H : (midrangelaw04_SegmentApplies.j0 k l1 (!t675) l0_0 a0_1) = some r := H
        have A10 := Aside0.mk A100
        clear A100
        have H' := Aside0.mk H
        clear H
        have hcz11_0 := cz_ BK672 0 (.slice A0_0 l0_0.length c0_0)
        have hcz11_1 := cz_ BK672 1 (.int .i64 a0_1)
        have hfz11_0 := blk_frozen BK672.out 0
        have hfz11_1 := blk_frozen BK672.out 1
        go_wp2_with (first | ((with_reducible refine gate_callee (f := 11) rfl ?_); refine goesL_ (some 12) rfl rfl Try.func11 (by kernel_rfl) rfl #[.agg #[.slice A0_0 l0_0.length c0_0, .int .i64 a0_1]] rfl (by (try simp only [List.map_toArray, List.map_cons, List.map_nil]); first | done | rfl | (simp only [List.length_drop, List.length_take]; rfl)) ?_; (with_reducible refine (midrangelaw04_few.calls k _ _ l0_0 a0_1 true _ ?side1 ?side2 A8.out).mono ?_); (case side1 => exact pc_ (Kd.C_below HR0_0.out HB.out)); (case side2 => exact HC0_0.out); rintro e w12 ⟨rfl, hb⟩; refine ⟨_, rfl, ?_⟩; replace BK672 := kb_ BK672 hb; replace HB := sb_ HB hb; (try clear hb); (try clear hb2); (try clear hk); (try clear hi)) | (go_at_call 31; (with_reducible refine (midrangelaw04_light.calls k _ _ l1 t675 _ ?side1 ?side2 A10.out).mono ?_); (case side1 => exact pc_ (Kd.C_below HR1.out HB.out)); (case side2 => exact HC1.out); rintro e w' ⟨rfl, ⟨nd, rfl⟩⟩))
        go_meet
        case rel => exact ⟨_, (!t675), (by first | rfl | (simp; done) | (simp [*]; done)), H', ⟨by first | omega | exact Nat.le_refl _⟩, ⟨pk_ BK672⟩, ⟨pb_ HB⟩⟩
      · replace c9 := Bool.eq_false_iff.mpr c9
        subst c9
        have H1 : (midrangelaw04_SegmentApplies.j0 k l1 true l0_0 a0_1) = some r := by rw [if_neg (show ¬ (false = true) by decide)] at H; exact H
        clear H
        have H := H1
        clear H1
        have H' := Aside0.mk H
        clear H
        have hcz13_0 := cz_ BK672 0 (.slice A0_0 l0_0.length c0_0)
        have hcz13_1 := cz_ BK672 1 (.int .i64 a0_1)
        have hfz13_0 := blk_frozen BK672.out 0
        have hfz13_1 := blk_frozen BK672.out 1
        go_wp2_with (first | ((with_reducible refine gate_callee (f := 11) rfl ?_); refine goesL_ (some 12) rfl rfl Try.func11 (by kernel_rfl) rfl #[.agg #[.slice A0_0 l0_0.length c0_0, .int .i64 a0_1]] rfl (by (try simp only [List.map_toArray, List.map_cons, List.map_nil]); first | done | rfl | (simp only [List.length_drop, List.length_take]; rfl)) ?_; (with_reducible refine (midrangelaw04_few.calls k _ _ l0_0 a0_1 false _ ?side1 ?side2 A8.out).mono ?_); (case side1 => exact pc_ (Kd.C_below HR0_0.out HB.out)); (case side2 => exact HC0_0.out); rintro e w14 ⟨rfl, hb⟩; refine ⟨_, rfl, ?_⟩; replace BK672 := kb_ BK672 hb; replace HB := sb_ HB hb; (try clear hb); (try clear hb2); (try clear hk); (try clear hi)))
        go_meet
        case rel => exact ⟨_, (true), (by first | rfl | (simp; done) | (simp [*]; done)), H', ⟨by first | omega | exact Nat.le_refl _⟩, ⟨pk_ BK672⟩, ⟨pb_ HB⟩⟩
    case rest =>
      clear HC5
      try clear c1
      try clear p2
      try clear c4
      try clear c8
      try clear c9
      try clear c10
      try clear c11
      try clear hcz11_0
      try clear hcz11_1
      try clear hcz13_0
      try clear hcz13_1
      try clear hfz11_0
      try clear hfz11_1
      try clear hfz13_0
      try clear hfz13_1
      obtain ⟨kq, x18_4, rfl, HA, HJ4, BK672, HB⟩ := hcut
      cases kq with
      | zero => exact absurd HA.out (by simp [midrangelaw04_SegmentApplies.j0])
      | succ kj4 =>
        have H := HA.out
        clear HA
        simp only [midrangelaw04_SegmentApplies.j0] at H
        by_cases c15 : x18_4 = true
        · subst c15
          have H1 : (some true) = some r := by rw [if_pos rfl] at H; exact H
          clear H
          have H := H1
          clear H1
          obtain rfl := Option.some.inj H
          go_wp2
          go_ret
          exact ⟨er_, pb_ HB⟩
        · replace c15 := Bool.eq_false_iff.mpr c15
          subst c15
          have H1 : ((midrangeref04_Own.f l0_0 a0_1).bind fun bt676 => ((midrangeref04_OwnOps.f l1).bind fun t680 => ((segment_Applied.f kj4 bt676.1 bt676.2 t680).bind fun bt683 => ((midrangeref04_Applied.f kj4 l0_0 a0_1 l1).bind fun bt690 => ((midrangelaw04_is.f kj4 bt683.1 bt683.2.1 bt683.2.2.2 bt690.1 bt690.2.1 bt690.2.2.1 bt690.2.2.2.1 bt690.2.2.2.2).bind fun t698 => (if t698 = true then (some (bt683.2.2.1 == bt690.2.2.1)) else (some false))))))) = some r := by rw [if_neg (show ¬ (false = true) by decide)] at H; exact H
          clear H
          have H := H1
          clear H1
          replace H := Option.bind_eq_some_iff.mp H
          obtain ⟨⟨t676, t679⟩, A160, H⟩ := H
          replace H : ((midrangeref04_OwnOps.f l1).bind fun t680 => ((segment_Applied.f kj4 t676 t679 t680).bind fun bt683 => ((midrangeref04_Applied.f kj4 l0_0 a0_1 l1).bind fun bt690 => ((midrangelaw04_is.f kj4 bt683.1 bt683.2.1 bt683.2.2.2 bt690.1 bt690.2.1 bt690.2.2.1 bt690.2.2.2.1 bt690.2.2.2.2).bind fun t698 => (if t698 = true then (some (bt683.2.2.1 == bt690.2.2.1)) else (some false)))))) = some r := H
          have A16 := Aside0.mk A160
          clear A160
          replace H := Option.bind_eq_some_iff.mp H
          obtain ⟨t680, A170, H⟩ := H
          replace H : ((segment_Applied.f kj4 t676 t679 t680).bind fun bt683 => ((midrangeref04_Applied.f kj4 l0_0 a0_1 l1).bind fun bt690 => ((midrangelaw04_is.f kj4 bt683.1 bt683.2.1 bt683.2.2.2 bt690.1 bt690.2.1 bt690.2.2.1 bt690.2.2.2.1 bt690.2.2.2.2).bind fun t698 => (if t698 = true then (some (bt683.2.2.1 == bt690.2.2.1)) else (some false))))) = some r := H
          have A17 := Aside0.mk A170
          clear A170
          replace H := Option.bind_eq_some_iff.mp H
          obtain ⟨⟨t683, t686, t687, t688⟩, A180, H⟩ := H
          replace H : ((midrangeref04_Applied.f kj4 l0_0 a0_1 l1).bind fun bt690 => ((midrangelaw04_is.f kj4 t683 t686 t688 bt690.1 bt690.2.1 bt690.2.2.1 bt690.2.2.2.1 bt690.2.2.2.2).bind fun t698 => (if t698 = true then (some (t687 == bt690.2.2.1)) else (some false)))) = some r := H
          have A18 := Aside0.mk A180
          clear A180
          replace H := Option.bind_eq_some_iff.mp H
          obtain ⟨⟨t690, t693, t694, t695, t696⟩, A190, H⟩ := H
          replace H : ((midrangelaw04_is.f kj4 t683 t686 t688 t690 t693 t694 t695 t696).bind fun t698 => (if t698 = true then (some (t687 == t694)) else (some false))) = some r := H
          have A19 := Aside0.mk A190
          clear A190
          replace H := Option.bind_eq_some_iff.mp H
          obtain ⟨t698, A200, H⟩ := H
          replace H : (if t698 = true then (some (t687 == t694)) else (some false)) = some r := H
          have A20 := Aside0.mk A200
          clear A200
          by_cases c21 : t698 = true
          · subst c21
            have H1 : (some (t687 == t694)) = some r := by rw [if_pos rfl] at H; exact H
            clear H
            have H := H1
            clear H1
            obtain rfl := Option.some.inj H
            have hcz22_0 := cz_ BK672 0 (.slice A0_0 l0_0.length c0_0)
            have hcz22_1 := cz_ BK672 1 (.int .i64 a0_1)
            have hfz22_0 := blk_frozen BK672.out 0
            have hfz22_1 := blk_frozen BK672.out 1
            go_wp2_with (first | ((with_reducible refine gate_callee (f := 13) rfl ?_); refine goesL_ (some 21) rfl rfl Try.func13 (by kernel_rfl) rfl #[.agg #[.slice A0_0 l0_0.length c0_0, .int .i64 a0_1]] rfl (by (try simp only [List.map_toArray, List.map_cons, List.map_nil]); first | done | rfl | (simp only [List.length_drop, List.length_take]; rfl)) ?_; (with_reducible refine (midrangeref04_Own.calls _ _ l0_0 a0_1 t676 t679 _ ?side1 ?side2 A16.out).mono ?_); (case side1 => exact pc_ (Kd.C_below HR0_0.out HB.out)); (case side2 => exact HC0_0.out); rintro e w23 ⟨v677, rfl, ho0, hb⟩; refine ⟨_, rfl, ?_⟩; have HO678 := Aside0.mk (Kd.R_lower ho0 (below_size (pb_ HB))); replace BK672 := kb_ BK672 hb; replace HB := sb_ HB hb; (try clear hb); (try clear hb2); (try clear hk); (try clear hi); (try clear ho0)) | ((with_reducible refine gate_callee (f := 33) rfl ?_); refine goesL_ (some 23) rfl rfl Try.func33 (by kernel_rfl) rfl #[.slice A1 l1.length c1] rfl (by (try simp only [List.map_toArray, List.map_cons, List.map_nil]); first | done | rfl | (simp only [List.length_drop, List.length_take]; rfl)) ?_; (with_reducible refine (midrangeref04_OwnOps.calls _ _ l1 t680 _ ?side1 ?side2 A17.out).mono ?_); (case side1 => exact pc_ (Kd.C_below HR1.out HB.out)); (case side2 => exact HC1.out); rintro e w24 ⟨v681, rfl, ho0, hb⟩; refine ⟨_, rfl, ?_⟩; replace HO678 := Aside0.mk (Kd.R_below (by (with_reducible repeat (first | apply Kd.R_alloc | apply Kd.R_drewN | apply Kd.R_drew)); exact HO678.out) hb); have HO682 := Aside0.mk (Kd.R_lower ho0 (below_size (pb_ HB))); replace BK672 := kb_ BK672 hb; replace HB := sb_ HB hb; (try clear hb); (try clear hb2); (try clear hk); (try clear hi); (try clear ho0); obtain ⟨Ao25, co25, eo25⟩ := Kd.R_slice HO678.out; subst eo25; obtain ⟨Ao26, co26, eo26⟩ := Kd.R_slice HO682.out; subst eo26) | ((with_reducible refine gate_callee (f := 32) rfl ?_); refine goesL_ (some 24) rfl rfl Try.func32 (by kernel_rfl) rfl #[.agg #[.slice Ao25 t676.length co25, .int .i64 t679], .slice Ao26 t680.length co26] rfl (by (try simp only [List.map_toArray, List.map_cons, List.map_nil]); first | done | rfl | (simp only [List.length_drop, List.length_take]; rfl)) ?_; (with_reducible refine (segment_Applied.calls kj4 _ _ t676 t679 _ _ t680 t683 t686 t687 t688 _ ?side1 ?side2 ?side3 ?side4 A18.out).mono ?_); (case side1 => exact pc_ (Kd.R_reads' HO678.out).2.2); (case side2 => exact (Kd.R_reads' HO678.out).2.1); (case side3 => exact pc_ (Kd.R_reads' HO682.out).2.2); (case side4 => exact (Kd.R_reads' HO682.out).2.1); rintro e w27 ⟨v684, rfl, ho0, hb⟩; refine ⟨_, rfl, ?_⟩; replace HO682 := Aside0.mk (Kd.R_below (by (with_reducible repeat (first | apply Kd.R_alloc | apply Kd.R_drewN | apply Kd.R_drew)); exact HO682.out) hb); have HO685 := Aside0.mk (Kd.R_lower (Kd.R_new' ho0 (Kd.R_lt (by (with_reducible repeat (first | apply Kd.R_alloc | apply Kd.R_drewN | apply Kd.R_drew)); exact HO678.out))) (below_size (pb_ HB))); replace HO678 := Aside0.mk (Kd.R_elder' (by (with_reducible repeat (first | apply Kd.R_alloc | apply Kd.R_drewN | apply Kd.R_drew)); exact HO678.out) (Kd.R_base ho0) hb); replace BK672 := kb_ BK672 hb; replace HB := sb_ HB hb; (try clear hb); (try clear hb2); (try clear hk); (try clear hi); (try clear ho0)) | ((with_reducible refine gate_dst (N := 5) rfl ?_); refine box_event ?hg (N := 5) ?hd (cs := #[.slice none 0 0, .int .i64 0]) (t := 24) ?hr ?_; (case hd => rfl); (case hg => rfl); (case hr => first | (go_simp; done) | (go_simp; rfl)); intro gb689 hg w28 hbox hb; replace HO678 := Aside0.mk (Kd.R_below (by (with_reducible repeat (first | apply Kd.R_alloc | apply Kd.R_drewN | apply Kd.R_drew)); exact HO678.out) hb); replace HO682 := Aside0.mk (Kd.R_below (by (with_reducible repeat (first | apply Kd.R_alloc | apply Kd.R_drewN | apply Kd.R_drew)); exact HO682.out) hb); replace HO685 := Aside0.mk (Kd.R_below (by (with_reducible repeat (first | apply Kd.R_alloc | apply Kd.R_drewN | apply Kd.R_drew)); exact HO685.out) hb); have BK689 := Aside0.mk (hbox); have GW689 := gw_ hg HB; have GE689 := gw_ hg HB; replace HB := sb_ HB hb; have NB672_689 := nl_ hg BK672; have NB689_672 := ng_ hg BK672; replace BK672 := kb_ BK672 hb; clear hb hbox hg; obtain ⟨Ao29, co29, eo29⟩ := Kd.R_slice HO685.out; subst eo29; have hnb30 := NB689_672.out; have hnc30 := NB672_689.out; have hcz31_0 := cz_ BK689 0 (.slice none 0 0); have hcz31_1 := cz_ BK689 1 (.int .i64 0); have hfz31_0 := blk_frozen BK689.out 0; have hfz31_1 := blk_frozen BK689.out 1) | ((with_reducible refine gate_store (t := 24) (p := 5) rfl ?_); refine store_event (t := 24) (p := 5) (v := ?vo_w32) (w1 := ((w28.setCell ⟨gb689, 0, none⟩ (.slice Ao29 t683.length co29)).setCell ⟨gb689, 1, none⟩ (.int .i64 t686))) ?hg ?ho ?hn ?hr ?_; (case ho => rfl); (case hg => rfl); (case hn => rfl); (case hr => first | (go_simp; done) | (go_simp; rfl)); intro w32 hw; have n0_ : Aside0 (Kd.R k56 56 w32 w.heap.size (fun k_ => some k_ ≠ (.slice Ao29 t683.length co29 : Value).ownBlock) (.slice Ao25 t676.length co25) t676) := ⟨(by rw [hw]; exact (by (with_reducible repeat (first | apply Kd.R_alloc | apply Kd.R_drewN | apply Kd.R_drew)); exact Kd.R_mono (Kd.R_far (p := ⟨gb689, 1, none⟩) (Kd.R_far (p := ⟨gb689, 0, none⟩) (Kd.R_types HO678.out BK689.out (by decide)) (fun _ hk => hk.2) (.slice Ao29 t683.length co29)) (fun _ hk => hk.2) (.int .i64 t686)) (fun _ hk => hk.1.2)))⟩; have n1_ : Aside0 (Kd.R k66 66 w32 w.heap.size (fun _ => True) (.slice Ao26 t680.length co26) t680) := ⟨(by rw [hw]; exact (by (with_reducible repeat (first | apply Kd.R_alloc | apply Kd.R_drewN | apply Kd.R_drew)); exact Kd.R_mono (Kd.R_far (p := ⟨gb689, 1, none⟩) (Kd.R_far (p := ⟨gb689, 0, none⟩) (Kd.R_types HO682.out BK689.out (by decide)) (fun _ hk => hk.2) (.slice Ao29 t683.length co29)) (fun _ hk => hk.2) (.int .i64 t686)) (fun _ hk => trivial)))⟩; have n2_ : Aside0 (Kd.R k56 56 w32 w.heap.size (fun k_ => some k_ ≠ (.slice Ao25 t676.length co25 : Value).ownBlock) (.slice Ao29 t683.length co29) t683) := ⟨(by rw [hw]; exact (by (with_reducible repeat (first | apply Kd.R_alloc | apply Kd.R_drewN | apply Kd.R_drew)); exact Kd.R_mono (Kd.R_far (p := ⟨gb689, 1, none⟩) (Kd.R_far (p := ⟨gb689, 0, none⟩) (Kd.R_types HO685.out BK689.out (by decide)) (fun _ hk => hk.2) (.slice Ao29 t683.length co29)) (fun _ hk => hk.2) (.int .i64 t686)) (fun _ hk => hk.1.2)))⟩; have n3_ : Aside0 (w32.heap[gb672]? = some (.cells #[.slice A0_0 l0_0.length c0_0, .int .i64 a0_1] 24 (0, 0))) := ⟨(by rw [hw]; exact (by (with_reducible repeat (first | refine blk_drewN ?_ _ | refine blk_drew ?_ | refine blk_alloc ?_ _)); refine blk_far ?_ NB672_689.out _; (with_reducible repeat (first | refine blk_drewN ?_ _ | refine blk_drew ?_ | refine blk_alloc ?_ _)); refine blk_far ?_ NB672_689.out _; (with_reducible repeat (first | refine blk_drewN ?_ _ | refine blk_drew ?_ | refine blk_alloc ?_ _)); exact BK672.out))⟩; have n4_ : Aside0 (w32.heap[gb689]? = some (.cells #[.slice Ao29 t683.length co29, .int .i64 t686] 24 (0, 0))) := ⟨(by rw [hw]; exact (by (with_reducible repeat (first | refine blk_drewN ?_ _ | refine blk_drew ?_ | refine blk_alloc ?_ _)); refine blk_put (cs := #[.slice Ao29 t683.length co29, .int .i64 0]) ?_ 1 _ rfl; (with_reducible repeat (first | refine blk_drewN ?_ _ | refine blk_drew ?_ | refine blk_alloc ?_ _)); refine blk_put (cs := #[.slice none 0 0, .int .i64 0]) ?_ 0 _ rfl; (with_reducible repeat (first | refine blk_drewN ?_ _ | refine blk_drew ?_ | refine blk_alloc ?_ _)); exact BK689.out))⟩; have n5_ : Aside0 (Below w.heap.size w w32) := ⟨(by rw [hw]; exact (pb_ HB))⟩; clear hw; clear HO678; clear HO682; clear HO685; clear BK672; clear BK689; clear HB; have HO678 := n0_; have HO682 := n1_; have HO685 := n2_; have BK672 := n3_; have BK689 := n4_; have HB := n5_; clear n0_ n1_ n2_ n3_ n4_ n5_; have hcz33_0 := cz_ BK672 0 (.slice A0_0 l0_0.length c0_0); have hcz33_1 := cz_ BK672 1 (.int .i64 a0_1); have hfz33_0 := blk_frozen BK672.out 0; have hfz33_1 := blk_frozen BK672.out 1) | ((with_reducible refine gate_callee (f := 34) rfl ?_); refine goesL_ (some 30) rfl rfl Try.func34 (by kernel_rfl) rfl #[.agg #[.slice A0_0 l0_0.length c0_0, .int .i64 a0_1], .slice A1 l1.length c1] rfl (by (try simp only [List.map_toArray, List.map_cons, List.map_nil]); first | done | rfl | (simp only [List.length_drop, List.length_take]; rfl)) ?_; (with_reducible refine (midrangeref04_Applied.calls kj4 (fun k_ => k_ < w.heap.size) _ _ l0_0 a0_1 _ _ l1 t690 t693 t694 t695 t696 _ ?side1 ?side2 ?side3 A19.out).mono ?_); (case side1 => exact Kd.V_mk HC0_0.out (Kd.F_below (Kd.C_F k56_heap HR0_0.out) (pb_ HB))); (case side2 => exact pc_ (Kd.C_below HR1.out HB.out)); (case side3 => exact HC1.out); rintro e w34 ⟨v691, rfl, ho0, hb⟩; refine ⟨_, rfl, ?_⟩; replace HO682 := Aside0.mk (Kd.R_below (by (with_reducible repeat (first | apply Kd.R_alloc | apply Kd.R_drewN | apply Kd.R_drew)); exact HO682.out) hb); have HO692 := Aside0.mk (Kd.R_lower (Kd.R_new' (Kd.R_new' (Kd.R_mono (ok' := fun k_ => True) ho0 (fun _ hk_ => trivial)) (Kd.R_lt (by (with_reducible repeat (first | apply Kd.R_alloc | apply Kd.R_drewN | apply Kd.R_drew)); exact HO678.out))) (Kd.R_lt (by (with_reducible repeat (first | apply Kd.R_alloc | apply Kd.R_drewN | apply Kd.R_drew)); exact HO685.out))) (below_size (pb_ HB))); replace HO678 := Aside0.mk (Kd.R_elder' (by (with_reducible repeat (first | apply Kd.R_alloc | apply Kd.R_drewN | apply Kd.R_drew)); exact HO678.out) (Kd.R_base ho0) hb); replace HO685 := Aside0.mk (Kd.R_elder' (by (with_reducible repeat (first | apply Kd.R_alloc | apply Kd.R_drewN | apply Kd.R_drew)); exact HO685.out) (Kd.R_base ho0) hb); replace BK672 := kb_ BK672 hb; replace BK689 := kb_ BK689 hb; replace HB := sb_ HB hb; (try clear hb); (try clear hb2); (try clear hk); (try clear hi); (try clear ho0)) | ((with_reducible refine gate_dst (N := 8) rfl ?_); refine box_event ?hg (N := 8) ?hd (cs := #[.slice none 0 0, .int .i64 0, .int .i64 0, .string (⟨#[]⟩ : ByteArray), .int .i64 0]) (t := 34) ?hr ?_; (case hd => rfl); (case hg => rfl); (case hr => first | (go_simp; done) | (go_simp; rfl)); intro gb697 hg w35 hbox hb; replace HO678 := Aside0.mk (Kd.R_below (by (with_reducible repeat (first | apply Kd.R_alloc | apply Kd.R_drewN | apply Kd.R_drew)); exact HO678.out) hb); replace HO682 := Aside0.mk (Kd.R_below (by (with_reducible repeat (first | apply Kd.R_alloc | apply Kd.R_drewN | apply Kd.R_drew)); exact HO682.out) hb); replace HO685 := Aside0.mk (Kd.R_below (by (with_reducible repeat (first | apply Kd.R_alloc | apply Kd.R_drewN | apply Kd.R_drew)); exact HO685.out) hb); replace HO692 := Aside0.mk (Kd.R_below (by (with_reducible repeat (first | apply Kd.R_alloc | apply Kd.R_drewN | apply Kd.R_drew)); exact HO692.out) hb); have BK697 := Aside0.mk (hbox); have GW697 := gw_ hg HB; have GE697 := gw_ hg HB; replace HB := sb_ HB hb; have NB672_697 := nl_ hg BK672; have NB697_672 := ng_ hg BK672; replace BK672 := kb_ BK672 hb; have NB689_697 := nl_ hg BK689; have NB697_689 := ng_ hg BK689; replace BK689 := kb_ BK689 hb; clear hb hbox hg; obtain ⟨Ao36, co36, eo36⟩ := Kd.R_slice HO692.out; subst eo36; have hnb37 := NB697_672.out; have hnc37 := NB672_697.out; have hnb38 := NB697_689.out; have hnc38 := NB689_697.out; have hcz39_0 := cz_ BK697 0 (.slice none 0 0); have hcz39_1 := cz_ BK697 1 (.int .i64 0); have hcz39_2 := cz_ BK697 2 (.int .i64 0); have hcz39_3 := cz_ BK697 3 (.string (⟨#[]⟩ : ByteArray)); have hcz39_4 := cz_ BK697 4 (.int .i64 0); have hfz39_0 := blk_frozen BK697.out 0; have hfz39_1 := blk_frozen BK697.out 1; have hfz39_2 := blk_frozen BK697.out 2; have hfz39_3 := blk_frozen BK697.out 3; have hfz39_4 := blk_frozen BK697.out 4; have hcz40_0 := cz_ BK689 0 (.slice Ao29 t683.length co29); have hcz40_1 := cz_ BK689 1 (.int .i64 t686); have hfz40_0 := blk_frozen BK689.out 0; have hfz40_1 := blk_frozen BK689.out 1) | ((with_reducible refine gate_callee (f := 16) rfl ?_); refine goesL_ (some 34) rfl rfl Try.func16 (by kernel_rfl) rfl #[.agg #[.slice Ao29 t683.length co29, .int .i64 t686], .int .i64 t688, .agg #[.slice Ao36 t690.length co36, .int .i64 t693, .int .i64 t694, .string t695, .int .i64 t696]] rfl (by (try simp only [List.map_toArray, List.map_cons, List.map_nil]); first | done | rfl | (simp only [List.length_drop, List.length_take]; rfl)) ?_; (with_reducible refine (midrangelaw04_is.calls kj4 _ _ t683 t686 t688 _ _ t690 t693 t694 t695 t696 true _ ?side1 ?side2 ?side3 ?side4 A20.out).mono ?_); (case side1 => refine (Kd.R_reads' (e := 56) (base := w.heap.size) (ok := fun k_ => (some k_ ≠ (.slice Ao25 t676.length co25 : Value).ownBlock ∧ some k_ ≠ (.slice Ao36 t690.length co36 : Value).ownBlock)) (n := t683.length) (c := co29) ?_).2.2; exact (by (with_reducible repeat (first | apply Kd.R_alloc | apply Kd.R_drewN | apply Kd.R_drew)); exact (Kd.R_mono (Kd.R_far (p := ⟨gb697, 4, none⟩) (Kd.R_far (p := ⟨gb697, 3, none⟩) (Kd.R_far (p := ⟨gb697, 2, none⟩) (Kd.R_far (p := ⟨gb697, 1, none⟩) (Kd.R_far (p := ⟨gb697, 0, none⟩) (Kd.R_types HO685.out BK697.out (by decide)) (fun _ hk => hk.2) (.slice Ao36 t690.length co36)) (fun _ hk => hk.2) (.int .i64 t693)) (fun _ hk => hk.2) (.int .i64 t694)) (fun _ hk => hk.2) (.string t695)) (fun _ hk => hk.2) (.int .i64 t696)) (fun _ h_ => h_.1)))); (case side2 => exact (Kd.R_reads' HO685.out).2.1); (case side3 => refine (Kd.R_reads' (e := 56) (base := w.heap.size) (ok := fun k_ => ((True ∧ some k_ ≠ (.slice Ao25 t676.length co25 : Value).ownBlock) ∧ some k_ ≠ (.slice Ao29 t683.length co29 : Value).ownBlock)) (n := t690.length) (c := co36) ?_).2.2; exact (by (with_reducible repeat (first | apply Kd.R_alloc | apply Kd.R_drewN | apply Kd.R_drew)); exact (Kd.R_mono (Kd.R_far (p := ⟨gb697, 4, none⟩) (Kd.R_far (p := ⟨gb697, 3, none⟩) (Kd.R_far (p := ⟨gb697, 2, none⟩) (Kd.R_far (p := ⟨gb697, 1, none⟩) (Kd.R_far (p := ⟨gb697, 0, none⟩) (Kd.R_types HO692.out BK697.out (by decide)) (fun _ hk => hk.2) (.slice Ao36 t690.length co36)) (fun _ hk => hk.2) (.int .i64 t693)) (fun _ hk => hk.2) (.int .i64 t694)) (fun _ hk => hk.2) (.string t695)) (fun _ hk => hk.2) (.int .i64 t696)) (fun _ h_ => h_.1)))); (case side4 => exact (Kd.R_reads' HO692.out).2.1); rintro e w41 ⟨rfl, hb⟩; refine ⟨_, rfl, ?_⟩; replace HO678 := Aside0.mk (Kd.R_below (by (with_reducible repeat (first | apply Kd.R_alloc | apply Kd.R_drewN | apply Kd.R_drew)); exact (Kd.R_mono (Kd.R_far (p := ⟨gb697, 4, none⟩) (Kd.R_far (p := ⟨gb697, 3, none⟩) (Kd.R_far (p := ⟨gb697, 2, none⟩) (Kd.R_far (p := ⟨gb697, 1, none⟩) (Kd.R_far (p := ⟨gb697, 0, none⟩) (Kd.R_types HO678.out BK697.out (by decide)) (fun _ hk => hk.2) (.slice Ao36 t690.length co36)) (fun _ hk => hk.2) (.int .i64 t693)) (fun _ hk => hk.2) (.int .i64 t694)) (fun _ hk => hk.2) (.string t695)) (fun _ hk => hk.2) (.int .i64 t696)) (fun _ h_ => h_.1))) hb); replace HO682 := Aside0.mk (Kd.R_below (by (with_reducible repeat (first | apply Kd.R_alloc | apply Kd.R_drewN | apply Kd.R_drew)); exact (Kd.R_mono (Kd.R_far (p := ⟨gb697, 4, none⟩) (Kd.R_far (p := ⟨gb697, 3, none⟩) (Kd.R_far (p := ⟨gb697, 2, none⟩) (Kd.R_far (p := ⟨gb697, 1, none⟩) (Kd.R_far (p := ⟨gb697, 0, none⟩) (Kd.R_types HO682.out BK697.out (by decide)) (fun _ hk => hk.2) (.slice Ao36 t690.length co36)) (fun _ hk => hk.2) (.int .i64 t693)) (fun _ hk => hk.2) (.int .i64 t694)) (fun _ hk => hk.2) (.string t695)) (fun _ hk => hk.2) (.int .i64 t696)) (fun _ h_ => h_.1))) hb); replace HO685 := Aside0.mk (Kd.R_below (by (with_reducible repeat (first | apply Kd.R_alloc | apply Kd.R_drewN | apply Kd.R_drew)); exact (Kd.R_mono (Kd.R_far (p := ⟨gb697, 4, none⟩) (Kd.R_far (p := ⟨gb697, 3, none⟩) (Kd.R_far (p := ⟨gb697, 2, none⟩) (Kd.R_far (p := ⟨gb697, 1, none⟩) (Kd.R_far (p := ⟨gb697, 0, none⟩) (Kd.R_types HO685.out BK697.out (by decide)) (fun _ hk => hk.2) (.slice Ao36 t690.length co36)) (fun _ hk => hk.2) (.int .i64 t693)) (fun _ hk => hk.2) (.int .i64 t694)) (fun _ hk => hk.2) (.string t695)) (fun _ hk => hk.2) (.int .i64 t696)) (fun _ h_ => h_.1))) hb); replace HO692 := Aside0.mk (Kd.R_below (by (with_reducible repeat (first | apply Kd.R_alloc | apply Kd.R_drewN | apply Kd.R_drew)); exact (Kd.R_mono (Kd.R_far (p := ⟨gb697, 4, none⟩) (Kd.R_far (p := ⟨gb697, 3, none⟩) (Kd.R_far (p := ⟨gb697, 2, none⟩) (Kd.R_far (p := ⟨gb697, 1, none⟩) (Kd.R_far (p := ⟨gb697, 0, none⟩) (Kd.R_types HO692.out BK697.out (by decide)) (fun _ hk => hk.2) (.slice Ao36 t690.length co36)) (fun _ hk => hk.2) (.int .i64 t693)) (fun _ hk => hk.2) (.int .i64 t694)) (fun _ hk => hk.2) (.string t695)) (fun _ hk => hk.2) (.int .i64 t696)) (fun _ h_ => h_.1))) hb); replace BK672 := Aside0.mk (blk_below (g := gb672) (o := .cells #[.slice A0_0 l0_0.length c0_0, .int .i64 a0_1] 24 (0, 0)) (by (with_reducible repeat (first | refine blk_drewN ?_ _ | refine blk_drew ?_ | refine blk_alloc ?_ _)); refine blk_far ?_ NB672_697.out _; (with_reducible repeat (first | refine blk_drewN ?_ _ | refine blk_drew ?_ | refine blk_alloc ?_ _)); refine blk_far ?_ NB672_697.out _; (with_reducible repeat (first | refine blk_drewN ?_ _ | refine blk_drew ?_ | refine blk_alloc ?_ _)); refine blk_far ?_ NB672_697.out _; (with_reducible repeat (first | refine blk_drewN ?_ _ | refine blk_drew ?_ | refine blk_alloc ?_ _)); refine blk_far ?_ NB672_697.out _; (with_reducible repeat (first | refine blk_drewN ?_ _ | refine blk_drew ?_ | refine blk_alloc ?_ _)); refine blk_far ?_ NB672_697.out _; (with_reducible repeat (first | refine blk_drewN ?_ _ | refine blk_drew ?_ | refine blk_alloc ?_ _)); exact BK672.out) hb); replace BK689 := Aside0.mk (blk_below (g := gb689) (o := .cells #[.slice Ao29 t683.length co29, .int .i64 t686] 24 (0, 0)) (by (with_reducible repeat (first | refine blk_drewN ?_ _ | refine blk_drew ?_ | refine blk_alloc ?_ _)); refine blk_far ?_ NB689_697.out _; (with_reducible repeat (first | refine blk_drewN ?_ _ | refine blk_drew ?_ | refine blk_alloc ?_ _)); refine blk_far ?_ NB689_697.out _; (with_reducible repeat (first | refine blk_drewN ?_ _ | refine blk_drew ?_ | refine blk_alloc ?_ _)); refine blk_far ?_ NB689_697.out _; (with_reducible repeat (first | refine blk_drewN ?_ _ | refine blk_drew ?_ | refine blk_alloc ?_ _)); refine blk_far ?_ NB689_697.out _; (with_reducible repeat (first | refine blk_drewN ?_ _ | refine blk_drew ?_ | refine blk_alloc ?_ _)); refine blk_far ?_ NB689_697.out _; (with_reducible repeat (first | refine blk_drewN ?_ _ | refine blk_drew ?_ | refine blk_alloc ?_ _)); exact BK689.out) hb); replace BK697 := Aside0.mk (blk_below (g := gb697) (o := .cells #[.slice Ao36 t690.length co36, .int .i64 t693, .int .i64 t694, .string t695, .int .i64 t696] 34 (0, 0)) (by (with_reducible repeat (first | refine blk_drewN ?_ _ | refine blk_drew ?_ | refine blk_alloc ?_ _)); refine blk_put (cs := #[.slice Ao36 t690.length co36, .int .i64 t693, .int .i64 t694, .string t695, .int .i64 0]) ?_ 4 _ rfl; (with_reducible repeat (first | refine blk_drewN ?_ _ | refine blk_drew ?_ | refine blk_alloc ?_ _)); refine blk_put (cs := #[.slice Ao36 t690.length co36, .int .i64 t693, .int .i64 t694, .string (⟨#[]⟩ : ByteArray), .int .i64 0]) ?_ 3 _ rfl; (with_reducible repeat (first | refine blk_drewN ?_ _ | refine blk_drew ?_ | refine blk_alloc ?_ _)); refine blk_put (cs := #[.slice Ao36 t690.length co36, .int .i64 t693, .int .i64 0, .string (⟨#[]⟩ : ByteArray), .int .i64 0]) ?_ 2 _ rfl; (with_reducible repeat (first | refine blk_drewN ?_ _ | refine blk_drew ?_ | refine blk_alloc ?_ _)); refine blk_put (cs := #[.slice Ao36 t690.length co36, .int .i64 0, .int .i64 0, .string (⟨#[]⟩ : ByteArray), .int .i64 0]) ?_ 1 _ rfl; (with_reducible repeat (first | refine blk_drewN ?_ _ | refine blk_drew ?_ | refine blk_alloc ?_ _)); refine blk_put (cs := #[.slice none 0 0, .int .i64 0, .int .i64 0, .string (⟨#[]⟩ : ByteArray), .int .i64 0]) ?_ 0 _ rfl; (with_reducible repeat (first | refine blk_drewN ?_ _ | refine blk_drew ?_ | refine blk_alloc ?_ _)); exact BK697.out) hb); replace HB := sb_ HB hb; (try clear hb); (try clear hb2); (try clear hk); (try clear hi); have hcz42_0 := cz_ BK697 0 (.slice Ao36 t690.length co36); have hcz42_1 := cz_ BK697 1 (.int .i64 t693); have hcz42_2 := cz_ BK697 2 (.int .i64 t694); have hcz42_3 := cz_ BK697 3 (.string t695); have hcz42_4 := cz_ BK697 4 (.int .i64 t696); have hfz42_0 := blk_frozen BK697.out 0; have hfz42_1 := blk_frozen BK697.out 1; have hfz42_2 := blk_frozen BK697.out 2; have hfz42_3 := blk_frozen BK697.out 3; have hfz42_4 := blk_frozen BK697.out 4))
            go_ret
            exact ⟨er_, pb_ HB⟩
          · replace c21 := Bool.eq_false_iff.mpr c21
            subst c21
            have H1 : (some false) = some r := by rw [if_neg (show ¬ (false = true) by decide)] at H; exact H
            clear H
            have H := H1
            clear H1
            obtain rfl := Option.some.inj H
            have hcz43_0 := cz_ BK672 0 (.slice A0_0 l0_0.length c0_0)
            have hcz43_1 := cz_ BK672 1 (.int .i64 a0_1)
            have hfz43_0 := blk_frozen BK672.out 0
            have hfz43_1 := blk_frozen BK672.out 1
            go_wp2_with (first | ((with_reducible refine gate_callee (f := 13) rfl ?_); refine goesL_ (some 21) rfl rfl Try.func13 (by kernel_rfl) rfl #[.agg #[.slice A0_0 l0_0.length c0_0, .int .i64 a0_1]] rfl (by (try simp only [List.map_toArray, List.map_cons, List.map_nil]); first | done | rfl | (simp only [List.length_drop, List.length_take]; rfl)) ?_; (with_reducible refine (midrangeref04_Own.calls _ _ l0_0 a0_1 t676 t679 _ ?side1 ?side2 A16.out).mono ?_); (case side1 => exact pc_ (Kd.C_below HR0_0.out HB.out)); (case side2 => exact HC0_0.out); rintro e w44 ⟨v677, rfl, ho0, hb⟩; refine ⟨_, rfl, ?_⟩; have HO678 := Aside0.mk (Kd.R_lower ho0 (below_size (pb_ HB))); replace BK672 := kb_ BK672 hb; replace HB := sb_ HB hb; (try clear hb); (try clear hb2); (try clear hk); (try clear hi); (try clear ho0)) | ((with_reducible refine gate_callee (f := 33) rfl ?_); refine goesL_ (some 23) rfl rfl Try.func33 (by kernel_rfl) rfl #[.slice A1 l1.length c1] rfl (by (try simp only [List.map_toArray, List.map_cons, List.map_nil]); first | done | rfl | (simp only [List.length_drop, List.length_take]; rfl)) ?_; (with_reducible refine (midrangeref04_OwnOps.calls _ _ l1 t680 _ ?side1 ?side2 A17.out).mono ?_); (case side1 => exact pc_ (Kd.C_below HR1.out HB.out)); (case side2 => exact HC1.out); rintro e w45 ⟨v681, rfl, ho0, hb⟩; refine ⟨_, rfl, ?_⟩; replace HO678 := Aside0.mk (Kd.R_below (by (with_reducible repeat (first | apply Kd.R_alloc | apply Kd.R_drewN | apply Kd.R_drew)); exact HO678.out) hb); have HO682 := Aside0.mk (Kd.R_lower ho0 (below_size (pb_ HB))); replace BK672 := kb_ BK672 hb; replace HB := sb_ HB hb; (try clear hb); (try clear hb2); (try clear hk); (try clear hi); (try clear ho0); obtain ⟨Ao46, co46, eo46⟩ := Kd.R_slice HO678.out; subst eo46; obtain ⟨Ao47, co47, eo47⟩ := Kd.R_slice HO682.out; subst eo47) | ((with_reducible refine gate_callee (f := 32) rfl ?_); refine goesL_ (some 24) rfl rfl Try.func32 (by kernel_rfl) rfl #[.agg #[.slice Ao46 t676.length co46, .int .i64 t679], .slice Ao47 t680.length co47] rfl (by (try simp only [List.map_toArray, List.map_cons, List.map_nil]); first | done | rfl | (simp only [List.length_drop, List.length_take]; rfl)) ?_; (with_reducible refine (segment_Applied.calls kj4 _ _ t676 t679 _ _ t680 t683 t686 t687 t688 _ ?side1 ?side2 ?side3 ?side4 A18.out).mono ?_); (case side1 => exact pc_ (Kd.R_reads' HO678.out).2.2); (case side2 => exact (Kd.R_reads' HO678.out).2.1); (case side3 => exact pc_ (Kd.R_reads' HO682.out).2.2); (case side4 => exact (Kd.R_reads' HO682.out).2.1); rintro e w48 ⟨v684, rfl, ho0, hb⟩; refine ⟨_, rfl, ?_⟩; replace HO682 := Aside0.mk (Kd.R_below (by (with_reducible repeat (first | apply Kd.R_alloc | apply Kd.R_drewN | apply Kd.R_drew)); exact HO682.out) hb); have HO685 := Aside0.mk (Kd.R_lower (Kd.R_new' ho0 (Kd.R_lt (by (with_reducible repeat (first | apply Kd.R_alloc | apply Kd.R_drewN | apply Kd.R_drew)); exact HO678.out))) (below_size (pb_ HB))); replace HO678 := Aside0.mk (Kd.R_elder' (by (with_reducible repeat (first | apply Kd.R_alloc | apply Kd.R_drewN | apply Kd.R_drew)); exact HO678.out) (Kd.R_base ho0) hb); replace BK672 := kb_ BK672 hb; replace HB := sb_ HB hb; (try clear hb); (try clear hb2); (try clear hk); (try clear hi); (try clear ho0)) | ((with_reducible refine gate_dst (N := 5) rfl ?_); refine box_event ?hg (N := 5) ?hd (cs := #[.slice none 0 0, .int .i64 0]) (t := 24) ?hr ?_; (case hd => rfl); (case hg => rfl); (case hr => first | (go_simp; done) | (go_simp; rfl)); intro gb689 hg w49 hbox hb; replace HO678 := Aside0.mk (Kd.R_below (by (with_reducible repeat (first | apply Kd.R_alloc | apply Kd.R_drewN | apply Kd.R_drew)); exact HO678.out) hb); replace HO682 := Aside0.mk (Kd.R_below (by (with_reducible repeat (first | apply Kd.R_alloc | apply Kd.R_drewN | apply Kd.R_drew)); exact HO682.out) hb); replace HO685 := Aside0.mk (Kd.R_below (by (with_reducible repeat (first | apply Kd.R_alloc | apply Kd.R_drewN | apply Kd.R_drew)); exact HO685.out) hb); have BK689 := Aside0.mk (hbox); have GW689 := gw_ hg HB; have GE689 := gw_ hg HB; replace HB := sb_ HB hb; have NB672_689 := nl_ hg BK672; have NB689_672 := ng_ hg BK672; replace BK672 := kb_ BK672 hb; clear hb hbox hg; obtain ⟨Ao50, co50, eo50⟩ := Kd.R_slice HO685.out; subst eo50; have hnb51 := NB689_672.out; have hnc51 := NB672_689.out; have hcz52_0 := cz_ BK689 0 (.slice none 0 0); have hcz52_1 := cz_ BK689 1 (.int .i64 0); have hfz52_0 := blk_frozen BK689.out 0; have hfz52_1 := blk_frozen BK689.out 1) | ((with_reducible refine gate_store (t := 24) (p := 5) rfl ?_); refine store_event (t := 24) (p := 5) (v := ?vo_w53) (w1 := ((w49.setCell ⟨gb689, 0, none⟩ (.slice Ao50 t683.length co50)).setCell ⟨gb689, 1, none⟩ (.int .i64 t686))) ?hg ?ho ?hn ?hr ?_; (case ho => rfl); (case hg => rfl); (case hn => rfl); (case hr => first | (go_simp; done) | (go_simp; rfl)); intro w53 hw; have n0_ : Aside0 (Kd.R k56 56 w53 w.heap.size (fun k_ => some k_ ≠ (.slice Ao50 t683.length co50 : Value).ownBlock) (.slice Ao46 t676.length co46) t676) := ⟨(by rw [hw]; exact (by (with_reducible repeat (first | apply Kd.R_alloc | apply Kd.R_drewN | apply Kd.R_drew)); exact Kd.R_mono (Kd.R_far (p := ⟨gb689, 1, none⟩) (Kd.R_far (p := ⟨gb689, 0, none⟩) (Kd.R_types HO678.out BK689.out (by decide)) (fun _ hk => hk.2) (.slice Ao50 t683.length co50)) (fun _ hk => hk.2) (.int .i64 t686)) (fun _ hk => hk.1.2)))⟩; have n1_ : Aside0 (Kd.R k66 66 w53 w.heap.size (fun _ => True) (.slice Ao47 t680.length co47) t680) := ⟨(by rw [hw]; exact (by (with_reducible repeat (first | apply Kd.R_alloc | apply Kd.R_drewN | apply Kd.R_drew)); exact Kd.R_mono (Kd.R_far (p := ⟨gb689, 1, none⟩) (Kd.R_far (p := ⟨gb689, 0, none⟩) (Kd.R_types HO682.out BK689.out (by decide)) (fun _ hk => hk.2) (.slice Ao50 t683.length co50)) (fun _ hk => hk.2) (.int .i64 t686)) (fun _ hk => trivial)))⟩; have n2_ : Aside0 (Kd.R k56 56 w53 w.heap.size (fun k_ => some k_ ≠ (.slice Ao46 t676.length co46 : Value).ownBlock) (.slice Ao50 t683.length co50) t683) := ⟨(by rw [hw]; exact (by (with_reducible repeat (first | apply Kd.R_alloc | apply Kd.R_drewN | apply Kd.R_drew)); exact Kd.R_mono (Kd.R_far (p := ⟨gb689, 1, none⟩) (Kd.R_far (p := ⟨gb689, 0, none⟩) (Kd.R_types HO685.out BK689.out (by decide)) (fun _ hk => hk.2) (.slice Ao50 t683.length co50)) (fun _ hk => hk.2) (.int .i64 t686)) (fun _ hk => hk.1.2)))⟩; have n3_ : Aside0 (w53.heap[gb672]? = some (.cells #[.slice A0_0 l0_0.length c0_0, .int .i64 a0_1] 24 (0, 0))) := ⟨(by rw [hw]; exact (by (with_reducible repeat (first | refine blk_drewN ?_ _ | refine blk_drew ?_ | refine blk_alloc ?_ _)); refine blk_far ?_ NB672_689.out _; (with_reducible repeat (first | refine blk_drewN ?_ _ | refine blk_drew ?_ | refine blk_alloc ?_ _)); refine blk_far ?_ NB672_689.out _; (with_reducible repeat (first | refine blk_drewN ?_ _ | refine blk_drew ?_ | refine blk_alloc ?_ _)); exact BK672.out))⟩; have n4_ : Aside0 (w53.heap[gb689]? = some (.cells #[.slice Ao50 t683.length co50, .int .i64 t686] 24 (0, 0))) := ⟨(by rw [hw]; exact (by (with_reducible repeat (first | refine blk_drewN ?_ _ | refine blk_drew ?_ | refine blk_alloc ?_ _)); refine blk_put (cs := #[.slice Ao50 t683.length co50, .int .i64 0]) ?_ 1 _ rfl; (with_reducible repeat (first | refine blk_drewN ?_ _ | refine blk_drew ?_ | refine blk_alloc ?_ _)); refine blk_put (cs := #[.slice none 0 0, .int .i64 0]) ?_ 0 _ rfl; (with_reducible repeat (first | refine blk_drewN ?_ _ | refine blk_drew ?_ | refine blk_alloc ?_ _)); exact BK689.out))⟩; have n5_ : Aside0 (Below w.heap.size w w53) := ⟨(by rw [hw]; exact (pb_ HB))⟩; clear hw; clear HO678; clear HO682; clear HO685; clear BK672; clear BK689; clear HB; have HO678 := n0_; have HO682 := n1_; have HO685 := n2_; have BK672 := n3_; have BK689 := n4_; have HB := n5_; clear n0_ n1_ n2_ n3_ n4_ n5_; have hcz54_0 := cz_ BK672 0 (.slice A0_0 l0_0.length c0_0); have hcz54_1 := cz_ BK672 1 (.int .i64 a0_1); have hfz54_0 := blk_frozen BK672.out 0; have hfz54_1 := blk_frozen BK672.out 1) | ((with_reducible refine gate_callee (f := 34) rfl ?_); refine goesL_ (some 30) rfl rfl Try.func34 (by kernel_rfl) rfl #[.agg #[.slice A0_0 l0_0.length c0_0, .int .i64 a0_1], .slice A1 l1.length c1] rfl (by (try simp only [List.map_toArray, List.map_cons, List.map_nil]); first | done | rfl | (simp only [List.length_drop, List.length_take]; rfl)) ?_; (with_reducible refine (midrangeref04_Applied.calls kj4 (fun k_ => k_ < w.heap.size) _ _ l0_0 a0_1 _ _ l1 t690 t693 t694 t695 t696 _ ?side1 ?side2 ?side3 A19.out).mono ?_); (case side1 => exact Kd.V_mk HC0_0.out (Kd.F_below (Kd.C_F k56_heap HR0_0.out) (pb_ HB))); (case side2 => exact pc_ (Kd.C_below HR1.out HB.out)); (case side3 => exact HC1.out); rintro e w55 ⟨v691, rfl, ho0, hb⟩; refine ⟨_, rfl, ?_⟩; replace HO682 := Aside0.mk (Kd.R_below (by (with_reducible repeat (first | apply Kd.R_alloc | apply Kd.R_drewN | apply Kd.R_drew)); exact HO682.out) hb); have HO692 := Aside0.mk (Kd.R_lower (Kd.R_new' (Kd.R_new' (Kd.R_mono (ok' := fun k_ => True) ho0 (fun _ hk_ => trivial)) (Kd.R_lt (by (with_reducible repeat (first | apply Kd.R_alloc | apply Kd.R_drewN | apply Kd.R_drew)); exact HO678.out))) (Kd.R_lt (by (with_reducible repeat (first | apply Kd.R_alloc | apply Kd.R_drewN | apply Kd.R_drew)); exact HO685.out))) (below_size (pb_ HB))); replace HO678 := Aside0.mk (Kd.R_elder' (by (with_reducible repeat (first | apply Kd.R_alloc | apply Kd.R_drewN | apply Kd.R_drew)); exact HO678.out) (Kd.R_base ho0) hb); replace HO685 := Aside0.mk (Kd.R_elder' (by (with_reducible repeat (first | apply Kd.R_alloc | apply Kd.R_drewN | apply Kd.R_drew)); exact HO685.out) (Kd.R_base ho0) hb); replace BK672 := kb_ BK672 hb; replace BK689 := kb_ BK689 hb; replace HB := sb_ HB hb; (try clear hb); (try clear hb2); (try clear hk); (try clear hi); (try clear ho0)) | ((with_reducible refine gate_dst (N := 8) rfl ?_); refine box_event ?hg (N := 8) ?hd (cs := #[.slice none 0 0, .int .i64 0, .int .i64 0, .string (⟨#[]⟩ : ByteArray), .int .i64 0]) (t := 34) ?hr ?_; (case hd => rfl); (case hg => rfl); (case hr => first | (go_simp; done) | (go_simp; rfl)); intro gb697 hg w56 hbox hb; replace HO678 := Aside0.mk (Kd.R_below (by (with_reducible repeat (first | apply Kd.R_alloc | apply Kd.R_drewN | apply Kd.R_drew)); exact HO678.out) hb); replace HO682 := Aside0.mk (Kd.R_below (by (with_reducible repeat (first | apply Kd.R_alloc | apply Kd.R_drewN | apply Kd.R_drew)); exact HO682.out) hb); replace HO685 := Aside0.mk (Kd.R_below (by (with_reducible repeat (first | apply Kd.R_alloc | apply Kd.R_drewN | apply Kd.R_drew)); exact HO685.out) hb); replace HO692 := Aside0.mk (Kd.R_below (by (with_reducible repeat (first | apply Kd.R_alloc | apply Kd.R_drewN | apply Kd.R_drew)); exact HO692.out) hb); have BK697 := Aside0.mk (hbox); have GW697 := gw_ hg HB; have GE697 := gw_ hg HB; replace HB := sb_ HB hb; have NB672_697 := nl_ hg BK672; have NB697_672 := ng_ hg BK672; replace BK672 := kb_ BK672 hb; have NB689_697 := nl_ hg BK689; have NB697_689 := ng_ hg BK689; replace BK689 := kb_ BK689 hb; clear hb hbox hg; obtain ⟨Ao57, co57, eo57⟩ := Kd.R_slice HO692.out; subst eo57; have hnb58 := NB697_672.out; have hnc58 := NB672_697.out; have hnb59 := NB697_689.out; have hnc59 := NB689_697.out; have hcz60_0 := cz_ BK697 0 (.slice none 0 0); have hcz60_1 := cz_ BK697 1 (.int .i64 0); have hcz60_2 := cz_ BK697 2 (.int .i64 0); have hcz60_3 := cz_ BK697 3 (.string (⟨#[]⟩ : ByteArray)); have hcz60_4 := cz_ BK697 4 (.int .i64 0); have hfz60_0 := blk_frozen BK697.out 0; have hfz60_1 := blk_frozen BK697.out 1; have hfz60_2 := blk_frozen BK697.out 2; have hfz60_3 := blk_frozen BK697.out 3; have hfz60_4 := blk_frozen BK697.out 4; have hcz61_0 := cz_ BK689 0 (.slice Ao50 t683.length co50); have hcz61_1 := cz_ BK689 1 (.int .i64 t686); have hfz61_0 := blk_frozen BK689.out 0; have hfz61_1 := blk_frozen BK689.out 1) | ((with_reducible refine gate_callee (f := 16) rfl ?_); refine goesL_ (some 34) rfl rfl Try.func16 (by kernel_rfl) rfl #[.agg #[.slice Ao50 t683.length co50, .int .i64 t686], .int .i64 t688, .agg #[.slice Ao57 t690.length co57, .int .i64 t693, .int .i64 t694, .string t695, .int .i64 t696]] rfl (by (try simp only [List.map_toArray, List.map_cons, List.map_nil]); first | done | rfl | (simp only [List.length_drop, List.length_take]; rfl)) ?_; (with_reducible refine (midrangelaw04_is.calls kj4 _ _ t683 t686 t688 _ _ t690 t693 t694 t695 t696 false _ ?side1 ?side2 ?side3 ?side4 A20.out).mono ?_); (case side1 => refine (Kd.R_reads' (e := 56) (base := w.heap.size) (ok := fun k_ => (some k_ ≠ (.slice Ao46 t676.length co46 : Value).ownBlock ∧ some k_ ≠ (.slice Ao57 t690.length co57 : Value).ownBlock)) (n := t683.length) (c := co50) ?_).2.2; exact (by (with_reducible repeat (first | apply Kd.R_alloc | apply Kd.R_drewN | apply Kd.R_drew)); exact (Kd.R_mono (Kd.R_far (p := ⟨gb697, 4, none⟩) (Kd.R_far (p := ⟨gb697, 3, none⟩) (Kd.R_far (p := ⟨gb697, 2, none⟩) (Kd.R_far (p := ⟨gb697, 1, none⟩) (Kd.R_far (p := ⟨gb697, 0, none⟩) (Kd.R_types HO685.out BK697.out (by decide)) (fun _ hk => hk.2) (.slice Ao57 t690.length co57)) (fun _ hk => hk.2) (.int .i64 t693)) (fun _ hk => hk.2) (.int .i64 t694)) (fun _ hk => hk.2) (.string t695)) (fun _ hk => hk.2) (.int .i64 t696)) (fun _ h_ => h_.1)))); (case side2 => exact (Kd.R_reads' HO685.out).2.1); (case side3 => refine (Kd.R_reads' (e := 56) (base := w.heap.size) (ok := fun k_ => ((True ∧ some k_ ≠ (.slice Ao46 t676.length co46 : Value).ownBlock) ∧ some k_ ≠ (.slice Ao50 t683.length co50 : Value).ownBlock)) (n := t690.length) (c := co57) ?_).2.2; exact (by (with_reducible repeat (first | apply Kd.R_alloc | apply Kd.R_drewN | apply Kd.R_drew)); exact (Kd.R_mono (Kd.R_far (p := ⟨gb697, 4, none⟩) (Kd.R_far (p := ⟨gb697, 3, none⟩) (Kd.R_far (p := ⟨gb697, 2, none⟩) (Kd.R_far (p := ⟨gb697, 1, none⟩) (Kd.R_far (p := ⟨gb697, 0, none⟩) (Kd.R_types HO692.out BK697.out (by decide)) (fun _ hk => hk.2) (.slice Ao57 t690.length co57)) (fun _ hk => hk.2) (.int .i64 t693)) (fun _ hk => hk.2) (.int .i64 t694)) (fun _ hk => hk.2) (.string t695)) (fun _ hk => hk.2) (.int .i64 t696)) (fun _ h_ => h_.1)))); (case side4 => exact (Kd.R_reads' HO692.out).2.1); rintro e w62 ⟨rfl, hb⟩; refine ⟨_, rfl, ?_⟩; replace HO678 := Aside0.mk (Kd.R_below (by (with_reducible repeat (first | apply Kd.R_alloc | apply Kd.R_drewN | apply Kd.R_drew)); exact (Kd.R_mono (Kd.R_far (p := ⟨gb697, 4, none⟩) (Kd.R_far (p := ⟨gb697, 3, none⟩) (Kd.R_far (p := ⟨gb697, 2, none⟩) (Kd.R_far (p := ⟨gb697, 1, none⟩) (Kd.R_far (p := ⟨gb697, 0, none⟩) (Kd.R_types HO678.out BK697.out (by decide)) (fun _ hk => hk.2) (.slice Ao57 t690.length co57)) (fun _ hk => hk.2) (.int .i64 t693)) (fun _ hk => hk.2) (.int .i64 t694)) (fun _ hk => hk.2) (.string t695)) (fun _ hk => hk.2) (.int .i64 t696)) (fun _ h_ => h_.1))) hb); replace HO682 := Aside0.mk (Kd.R_below (by (with_reducible repeat (first | apply Kd.R_alloc | apply Kd.R_drewN | apply Kd.R_drew)); exact (Kd.R_mono (Kd.R_far (p := ⟨gb697, 4, none⟩) (Kd.R_far (p := ⟨gb697, 3, none⟩) (Kd.R_far (p := ⟨gb697, 2, none⟩) (Kd.R_far (p := ⟨gb697, 1, none⟩) (Kd.R_far (p := ⟨gb697, 0, none⟩) (Kd.R_types HO682.out BK697.out (by decide)) (fun _ hk => hk.2) (.slice Ao57 t690.length co57)) (fun _ hk => hk.2) (.int .i64 t693)) (fun _ hk => hk.2) (.int .i64 t694)) (fun _ hk => hk.2) (.string t695)) (fun _ hk => hk.2) (.int .i64 t696)) (fun _ h_ => h_.1))) hb); replace HO685 := Aside0.mk (Kd.R_below (by (with_reducible repeat (first | apply Kd.R_alloc | apply Kd.R_drewN | apply Kd.R_drew)); exact (Kd.R_mono (Kd.R_far (p := ⟨gb697, 4, none⟩) (Kd.R_far (p := ⟨gb697, 3, none⟩) (Kd.R_far (p := ⟨gb697, 2, none⟩) (Kd.R_far (p := ⟨gb697, 1, none⟩) (Kd.R_far (p := ⟨gb697, 0, none⟩) (Kd.R_types HO685.out BK697.out (by decide)) (fun _ hk => hk.2) (.slice Ao57 t690.length co57)) (fun _ hk => hk.2) (.int .i64 t693)) (fun _ hk => hk.2) (.int .i64 t694)) (fun _ hk => hk.2) (.string t695)) (fun _ hk => hk.2) (.int .i64 t696)) (fun _ h_ => h_.1))) hb); replace HO692 := Aside0.mk (Kd.R_below (by (with_reducible repeat (first | apply Kd.R_alloc | apply Kd.R_drewN | apply Kd.R_drew)); exact (Kd.R_mono (Kd.R_far (p := ⟨gb697, 4, none⟩) (Kd.R_far (p := ⟨gb697, 3, none⟩) (Kd.R_far (p := ⟨gb697, 2, none⟩) (Kd.R_far (p := ⟨gb697, 1, none⟩) (Kd.R_far (p := ⟨gb697, 0, none⟩) (Kd.R_types HO692.out BK697.out (by decide)) (fun _ hk => hk.2) (.slice Ao57 t690.length co57)) (fun _ hk => hk.2) (.int .i64 t693)) (fun _ hk => hk.2) (.int .i64 t694)) (fun _ hk => hk.2) (.string t695)) (fun _ hk => hk.2) (.int .i64 t696)) (fun _ h_ => h_.1))) hb); replace BK672 := Aside0.mk (blk_below (g := gb672) (o := .cells #[.slice A0_0 l0_0.length c0_0, .int .i64 a0_1] 24 (0, 0)) (by (with_reducible repeat (first | refine blk_drewN ?_ _ | refine blk_drew ?_ | refine blk_alloc ?_ _)); refine blk_far ?_ NB672_697.out _; (with_reducible repeat (first | refine blk_drewN ?_ _ | refine blk_drew ?_ | refine blk_alloc ?_ _)); refine blk_far ?_ NB672_697.out _; (with_reducible repeat (first | refine blk_drewN ?_ _ | refine blk_drew ?_ | refine blk_alloc ?_ _)); refine blk_far ?_ NB672_697.out _; (with_reducible repeat (first | refine blk_drewN ?_ _ | refine blk_drew ?_ | refine blk_alloc ?_ _)); refine blk_far ?_ NB672_697.out _; (with_reducible repeat (first | refine blk_drewN ?_ _ | refine blk_drew ?_ | refine blk_alloc ?_ _)); refine blk_far ?_ NB672_697.out _; (with_reducible repeat (first | refine blk_drewN ?_ _ | refine blk_drew ?_ | refine blk_alloc ?_ _)); exact BK672.out) hb); replace BK689 := Aside0.mk (blk_below (g := gb689) (o := .cells #[.slice Ao50 t683.length co50, .int .i64 t686] 24 (0, 0)) (by (with_reducible repeat (first | refine blk_drewN ?_ _ | refine blk_drew ?_ | refine blk_alloc ?_ _)); refine blk_far ?_ NB689_697.out _; (with_reducible repeat (first | refine blk_drewN ?_ _ | refine blk_drew ?_ | refine blk_alloc ?_ _)); refine blk_far ?_ NB689_697.out _; (with_reducible repeat (first | refine blk_drewN ?_ _ | refine blk_drew ?_ | refine blk_alloc ?_ _)); refine blk_far ?_ NB689_697.out _; (with_reducible repeat (first | refine blk_drewN ?_ _ | refine blk_drew ?_ | refine blk_alloc ?_ _)); refine blk_far ?_ NB689_697.out _; (with_reducible repeat (first | refine blk_drewN ?_ _ | refine blk_drew ?_ | refine blk_alloc ?_ _)); refine blk_far ?_ NB689_697.out _; (with_reducible repeat (first | refine blk_drewN ?_ _ | refine blk_drew ?_ | refine blk_alloc ?_ _)); exact BK689.out) hb); replace BK697 := Aside0.mk (blk_below (g := gb697) (o := .cells #[.slice Ao57 t690.length co57, .int .i64 t693, .int .i64 t694, .string t695, .int .i64 t696] 34 (0, 0)) (by (with_reducible repeat (first | refine blk_drewN ?_ _ | refine blk_drew ?_ | refine blk_alloc ?_ _)); refine blk_put (cs := #[.slice Ao57 t690.length co57, .int .i64 t693, .int .i64 t694, .string t695, .int .i64 0]) ?_ 4 _ rfl; (with_reducible repeat (first | refine blk_drewN ?_ _ | refine blk_drew ?_ | refine blk_alloc ?_ _)); refine blk_put (cs := #[.slice Ao57 t690.length co57, .int .i64 t693, .int .i64 t694, .string (⟨#[]⟩ : ByteArray), .int .i64 0]) ?_ 3 _ rfl; (with_reducible repeat (first | refine blk_drewN ?_ _ | refine blk_drew ?_ | refine blk_alloc ?_ _)); refine blk_put (cs := #[.slice Ao57 t690.length co57, .int .i64 t693, .int .i64 0, .string (⟨#[]⟩ : ByteArray), .int .i64 0]) ?_ 2 _ rfl; (with_reducible repeat (first | refine blk_drewN ?_ _ | refine blk_drew ?_ | refine blk_alloc ?_ _)); refine blk_put (cs := #[.slice Ao57 t690.length co57, .int .i64 0, .int .i64 0, .string (⟨#[]⟩ : ByteArray), .int .i64 0]) ?_ 1 _ rfl; (with_reducible repeat (first | refine blk_drewN ?_ _ | refine blk_drew ?_ | refine blk_alloc ?_ _)); refine blk_put (cs := #[.slice none 0 0, .int .i64 0, .int .i64 0, .string (⟨#[]⟩ : ByteArray), .int .i64 0]) ?_ 0 _ rfl; (with_reducible repeat (first | refine blk_drewN ?_ _ | refine blk_drew ?_ | refine blk_alloc ?_ _)); exact BK697.out) hb); replace HB := sb_ HB hb; (try clear hb); (try clear hb2); (try clear hk); (try clear hi)))
            go_ret
            exact ⟨er_, pb_ HB⟩
  · replace c4 := Bool.eq_false_iff.mpr c4
    subst c4
    have H1 : (some false) = some r := by rw [if_neg (show ¬ (false = true) by decide)] at H; exact H
    clear H
    have H := H1
    clear H1
    obtain rfl := Option.some.inj H
    go_enter Try.func8, Try.ntmps8
    go_wp2_with (first | ((with_reducible refine gate_dst (N := 2) rfl ?_); refine box_event ?hg (N := 2) ?hd (cs := #[.slice A0_0 l0_0.length c0_0, .int .i64 a0_1]) (t := 24) ?hr ?_; (case hd => rfl); (case hg => rfl); (case hr => first | (go_simp; done) | (go_simp; rfl)); intro gb672 hg w63 hbox hb; have BK672 := Aside0.mk (hbox); have GW672 := gw_ hg HB; have GE672 := gw_ hg HB; replace HB := sb_ HB hb; clear hb hbox hg) | ((with_reducible refine gate_callee (f := 10) rfl ?_); refine goesL_ (some 9) rfl rfl Try.func10 (by kernel_rfl) rfl #[] rfl (by (try simp only [List.map_toArray, List.map_cons, List.map_nil]); first | done | rfl | (simp only [List.length_drop, List.length_take]; rfl)) ?_; (with_reducible refine (midrangelaw04_awake.calls k  false _ A3.out).mono ?_); rintro e w64 ⟨rfl, hb⟩; refine ⟨_, rfl, ?_⟩; replace BK672 := kb_ BK672 hb; replace HB := sb_ HB hb; (try clear hb); (try clear hb2); (try clear hk); (try clear hi)))
    go_ret
    exact ⟨er_, pb_ HB⟩

/-- THE ONE PURE STATEMENT of midrangelaw04_SegmentApplies. -/
def midrangelaw04_SegmentApplies.Pure : Prop := ∀ (l0_0 : List (S56)) (a0_1 : Int) (l1 : List (S66)), (l0_0.length ≤ 9223372036854775807 ∧ ∀ y0 ∈ l0_0, ok56 y0) → (Lit.int .i64 a0_1).wf = true → (l1.length ≤ 9223372036854775807 ∧ ∀ y0 ∈ l1, ok66 y0) → ∃ k, midrangelaw04_SegmentApplies.f k l0_0 a0_1 l1 = some true

end Go.Proofs.Ytoabahlaicgmjaa.X
end
section
namespace Go.Proofs.Ytoabahlaicgmjaa.Q
open Go.RowKit Go.Proofs.Ytoabahlaicgmjaa.X Go.Proofs.YtoabahlaicgmjaaW.PrintWords Go.Proofs.YtoabahlaicgmjaaW.PrintLast Go.Proofs.YtoabahlaicgmjaaW.PrintMore
set_option linter.unusedVariables false
set_option linter.unusedSimpArgs false

/-! ### Small things -/
theorem wf64 {a : Int} (h : (Lit.int .i64 a).wf = true) : -9223372036854775808 ≤ a ∧ a ≤ 9223372036854775807 := by
  simp [Lit.wf, IntKind.min, IntKind.max, IntKind.bits, IntKind.signed] at h
  constructor <;> omega
theorem w64 {x : Int} (h0 : -9223372036854775808 ≤ x) (h1 : x ≤ 9223372036854775807) : wrap64 x = x := by
  unfold wrap64
  omega
theorem within_eq (a b c : Int) : segment_within.f a b c = some (decide (b ≤ a ∧ a ≤ c)) := by
  unfold segment_within.f
  by_cases h : b ≤ a <;> simp [h]
theorem Within_eq (a b c : Int) : midrangebase_Within.f a b c = some (decide (b ≤ a ∧ a ≤ c)) := by
  unfold midrangebase_Within.f
  by_cases h : b ≤ a <;> simp [h]

/-! ### Stores: the program's check and the specification's are one function -/
def bad (l : List S56) (nx : Int) (i : Nat) : Option Int :=
  if ¬ (1 ≤ (rd_T56 l i).f0 ∧ (rd_T56 l i).f0 ≤ wrap64 (nx - 1)) then some 3
  else if 0 < i ∧ (rd_T56 l i).f0 ≤ (rd_T56 l ((i : Int) - 1)).f0 then some 14
  else if ¬ (((rd_T56 l i).f1.size : Int) % 32 = 0 ∧ 1 ≤ wrap64 (((rd_T56 l i).f1.size : Int) / 32) ∧ wrap64 (((rd_T56 l i).f1.size : Int) / 32) ≤ 8) then some 18
  else none
def chkFrom (l : List S56) (nx : Int) : Nat → Nat → Int × Int
  | 0, _ => (0, 0)
  | d + 1, i => (bad l nx i).elim (chkFrom l nx d (i + 1)) (fun e => ((i : Int), e))
def chk (l : List S56) (nx : Int) : Int × Int :=
  if 10 < l.length then (0, 2) else if ¬ (1 ≤ nx ∧ nx ≤ 1001) then (0, 3) else chkFrom l nx l.length 0

theorem cs_j1 (k : Nat) (x4 x6 x17 x18 nx : Int) (l : List S56) (b : Bool) : segment_CheckStore.j1 (k + 1) x4 x6 l x17 x18 b l nx =
    if b = true then some (x4, 14) else if x6 % 32 = 0 ∧ 1 ≤ wrap64 (x6 / 32) ∧ wrap64 (x6 / 32) ≤ 8 then segment_CheckStore.l0 k l x17 (wrap64 (x18 + 1)) l nx else some (x4, 18) := by
  rw [segment_CheckStore.j1, within_eq, Option.bind_some]
  cases b with
  | true => simp
  | false =>
    by_cases h1 : x6 % 32 = 0
    · by_cases h2 : 1 ≤ wrap64 (x6 / 32) ∧ wrap64 (x6 / 32) ≤ 8
      · simp [h1, h2]
      · simp [h1, h2]
    · simp [h1]
theorem rc_j1 (k : Nat) (x4 x0 nx : Int) (s : ByteArray) (l : List S56) (b : Bool) : midrangeref04_Check.j1 (k + 1) x4 b l nx x0 s =
    if b = true then some (x4, 14) else if (s.size : Int) % 32 = 0 ∧ 1 ≤ wrap64 ((s.size : Int) / 32) ∧ wrap64 ((s.size : Int) / 32) ≤ 8 then midrangeref04_Check.l0 k (wrap64 (x4 + 1)) l nx else some (x4, 18) := by
  rw [midrangeref04_Check.j1, midrangeref04_Pages.f, Option.bind_some, Within_eq, Option.bind_some]
  generalize (s.size : Int) = x6
  cases b with
  | true => simp
  | false =>
    by_cases h1 : x6 % 32 = 0
    · by_cases h2 : 1 ≤ wrap64 (x6 / 32) ∧ wrap64 (x6 / 32) ≤ 8
      · simp [h1, h2]
      · simp [h1, h2]
    · simp [h1]
theorem cs_loop (l : List S56) (nx : Int) (hl : l.length ≤ 10) (d : Nat) : ∀ (i k : Nat), i + d = l.length → 2 * d + 1 ≤ k →
    segment_CheckStore.l0 k l (l.length : Int) (i : Int) l nx = some (chkFrom l nx d i) := by
  induction d with
  | zero =>
    intro i k hi hk
    obtain ⟨k, rfl⟩ : ∃ m, k = m + 1 := ⟨k - 1, by omega⟩
    simp only [segment_CheckStore.l0, chkFrom]
    rw [if_neg (by omega)]
  | succ d ih =>
    intro i k hi hk
    obtain ⟨k, rfl⟩ : ∃ m, k = m + 1 := ⟨k - 1, by omega⟩
    obtain ⟨k, rfl⟩ : ∃ m, k = m + 1 := ⟨k - 1, by omega⟩
    have ih' := ih (i + 1) k (by omega) (by omega)
    have e1 : wrap64 ((i : Int) + 1) = ((i + 1 : Nat) : Int) := by rw [w64 (by omega) (by omega)]; omega
    simp only [segment_CheckStore.l0, within_eq, Option.bind_some, chkFrom, bad, decide_eq_true_eq]
    rw [if_pos (by omega), if_pos (by omega), if_pos (by omega)]
    by_cases h1 : 1 ≤ (rd_T56 l i).f0 ∧ (rd_T56 l i).f0 ≤ wrap64 (nx - 1)
    · rw [if_pos h1, if_neg (not_not_intro h1)]
      have fin : ∀ b : Bool, (b = true ↔ (0 < i ∧ (rd_T56 l i).f0 ≤ (rd_T56 l ((i : Int) - 1)).f0)) →
          segment_CheckStore.j1 (k + 1) (i : Int) ((rd_T56 l i).f1.size : Int) l (l.length : Int) (i : Int) b l nx =
          some (Option.elim (if 0 < i ∧ (rd_T56 l i).f0 ≤ (rd_T56 l ((i : Int) - 1)).f0 then some 14 else if ¬ (((rd_T56 l i).f1.size : Int) % 32 = 0 ∧ 1 ≤ wrap64 (((rd_T56 l i).f1.size : Int) / 32) ∧ wrap64 (((rd_T56 l i).f1.size : Int) / 32) ≤ 8) then some 18 else none : Option Int) (chkFrom l nx d (i + 1)) (fun e => ((i : Int), e))) := by
        intro b hb
        rw [cs_j1, e1, ih']
        generalize ((rd_T56 l i).f1.size : Int) = x6
        by_cases h2 : 0 < i ∧ (rd_T56 l i).f0 ≤ (rd_T56 l ((i : Int) - 1)).f0
        · rw [if_pos (hb.2 h2), if_pos h2]; rfl
        · rw [if_neg (fun h => h2 (hb.1 h)), if_neg h2]
          by_cases h3 : x6 % 32 = 0 ∧ 1 ≤ wrap64 (x6 / 32) ∧ wrap64 (x6 / 32) ≤ 8
          · rw [if_pos h3, if_neg (not_not_intro h3)]; rfl
          · rw [if_neg h3, if_pos h3]; rfl
      by_cases h0 : (i : Int) > 0
      · have e2 : wrap64 ((i : Int) - 1) = (i : Int) - 1 := w64 (by omega) (by omega)
        rw [if_pos h0, e2, if_pos (by omega), if_pos (by omega)]
        refine fin _ ?_
        rw [decide_eq_true_eq]
        exact ⟨fun h => ⟨by omega, h⟩, fun h => h.2⟩
      · rw [if_neg h0]
        refine fin _ ?_
        exact ⟨(fun h => by cases h), (fun h => by omega)⟩
    · rw [if_neg h1, if_pos h1]; rfl
theorem rc_loop (l : List S56) (nx : Int) (hl : l.length ≤ 10) (d : Nat) : ∀ (i k : Nat), i + d = l.length → 2 * d + 1 ≤ k →
    midrangeref04_Check.l0 k (i : Int) l nx = some (chkFrom l nx d i) := by
  induction d with
  | zero =>
    intro i k hi hk
    obtain ⟨k, rfl⟩ : ∃ m, k = m + 1 := ⟨k - 1, by omega⟩
    simp only [midrangeref04_Check.l0, chkFrom]
    rw [if_neg (by omega)]
  | succ d ih =>
    intro i k hi hk
    obtain ⟨k, rfl⟩ : ∃ m, k = m + 1 := ⟨k - 1, by omega⟩
    obtain ⟨k, rfl⟩ : ∃ m, k = m + 1 := ⟨k - 1, by omega⟩
    have ih' := ih (i + 1) k (by omega) (by omega)
    have e1 : wrap64 ((i : Int) + 1) = ((i + 1 : Nat) : Int) := by rw [w64 (by omega) (by omega)]; omega
    simp only [midrangeref04_Check.l0, Within_eq, Option.bind_some, chkFrom, bad, decide_eq_true_eq]
    rw [if_pos (by omega), if_pos (by omega)]
    by_cases h1 : 1 ≤ (rd_T56 l i).f0 ∧ (rd_T56 l i).f0 ≤ wrap64 (nx - 1)
    · rw [if_pos h1, if_neg (not_not_intro h1)]
      have fin : ∀ b : Bool, (b = true ↔ (0 < i ∧ (rd_T56 l i).f0 ≤ (rd_T56 l ((i : Int) - 1)).f0)) →
          midrangeref04_Check.j1 (k + 1) (i : Int) b l nx (rd_T56 l i).f0 (rd_T56 l i).f1 =
          some (Option.elim (if 0 < i ∧ (rd_T56 l i).f0 ≤ (rd_T56 l ((i : Int) - 1)).f0 then some 14 else if ¬ (((rd_T56 l i).f1.size : Int) % 32 = 0 ∧ 1 ≤ wrap64 (((rd_T56 l i).f1.size : Int) / 32) ∧ wrap64 (((rd_T56 l i).f1.size : Int) / 32) ≤ 8) then some 18 else none : Option Int) (chkFrom l nx d (i + 1)) (fun e => ((i : Int), e))) := by
        intro b hb
        rw [rc_j1, e1, ih']
        generalize ((rd_T56 l i).f1.size : Int) = x6
        by_cases h2 : 0 < i ∧ (rd_T56 l i).f0 ≤ (rd_T56 l ((i : Int) - 1)).f0
        · rw [if_pos (hb.2 h2), if_pos h2]; rfl
        · rw [if_neg (fun h => h2 (hb.1 h)), if_neg h2]
          by_cases h3 : x6 % 32 = 0 ∧ 1 ≤ wrap64 (x6 / 32) ∧ wrap64 (x6 / 32) ≤ 8
          · rw [if_pos h3, if_neg (not_not_intro h3)]; rfl
          · rw [if_neg h3, if_pos h3]; rfl
      by_cases h0 : (i : Int) > 0
      · have e2 : wrap64 ((i : Int) - 1) = (i : Int) - 1 := w64 (by omega) (by omega)
        rw [if_pos h0, e2, if_pos (by omega), if_pos (by omega)]
        refine fin _ ?_
        rw [decide_eq_true_eq]
        exact ⟨fun h => ⟨by omega, h⟩, fun h => h.2⟩
      · rw [if_neg h0]
        refine fin _ ?_
        exact ⟨(fun h => by cases h), (fun h => by omega)⟩
    · rw [if_neg h1, if_pos h1]; rfl
theorem check_eq (l : List S56) (nx : Int) (k : Nat) (hk : 21 ≤ k) : segment_CheckStore.f k l nx = some (chk l nx) := by
  unfold segment_CheckStore.f chk
  by_cases h : (l.length : Int) > 10
  · rw [if_pos h, if_pos (by omega)]
  · rw [if_neg h, if_neg (by omega), within_eq]
    simp only [Option.bind_some, decide_eq_true_eq]
    by_cases h2 : 1 ≤ nx ∧ nx ≤ 1001
    · rw [if_pos h2, if_neg (not_not_intro h2)]
      exact cs_loop l nx (by omega) l.length 0 k (by omega) (by omega)
    · rw [if_neg h2, if_pos h2]
theorem Check_eq (l : List S56) (nx : Int) (k : Nat) (hk : 21 ≤ k) : midrangeref04_Check.f k l nx = some (chk l nx) := by
  unfold midrangeref04_Check.f chk
  by_cases h : (l.length : Int) > 10
  · rw [if_pos h, if_pos (by omega)]
  · rw [if_neg h, if_neg (by omega), Within_eq]
    simp only [Option.bind_some, decide_eq_true_eq]
    by_cases h2 : 1 ≤ nx ∧ nx ≤ 1001
    · rw [if_pos h2, if_neg (not_not_intro h2)]
      exact rc_loop l nx (by omega) l.length 0 k (by omega) (by omega)
    · rw [if_neg h2, if_pos h2]
theorem Err_eq (l : List S56) (nx : Int) (k : Nat) (hk : 21 ≤ k) : midrangeref04_Err.f k l nx = some (chk l nx).2 := by
  unfold midrangeref04_Err.f
  rw [Check_eq l nx k hk]
  rfl

/-! ### The guard; copies -/
def small (l : List S56) : Prop := l.length ≤ 12 ∧ ∀ x ∈ l, x.f1.size ≤ 400
theorem few_loop (l : List S56) (nx : Int) (hl : l.length ≤ 12) (d : Nat) : ∀ (i k : Nat), i + d = l.length → d + 1 ≤ k →
    ∃ b, midrangelaw04_few.l0 k (i : Int) l nx = some b ∧ (b = true → ∀ x ∈ l.drop i, x.f1.size ≤ 400) := by
  induction d with
  | zero =>
    intro i k hi hk
    obtain ⟨k, rfl⟩ : ∃ m, k = m + 1 := ⟨k - 1, by omega⟩
    simp only [midrangelaw04_few.l0]
    rw [if_neg (by omega)]
    refine ⟨true, rfl, fun _ x hx => ?_⟩
    rw [List.drop_eq_nil_of_le (by omega)] at hx
    cases hx
  | succ d ih =>
    intro i k hi hk
    obtain ⟨k, rfl⟩ : ∃ m, k = m + 1 := ⟨k - 1, by omega⟩
    have e1 : wrap64 ((i : Int) + 1) = ((i + 1 : Nat) : Int) := by rw [w64 (by omega) (by omega)]; omega
    obtain ⟨b, hb, hx⟩ := ih (i + 1) k (by omega) (by omega)
    simp only [midrangelaw04_few.l0]
    rw [if_pos (by omega), if_pos (by omega), e1, hb]
    have hil : i < l.length := by omega
    have er : rd_T56 l (i : Int) = l[i] := by simp [rd_T56, hil]
    by_cases h : ((rd_T56 l (i : Int)).f1.size : Int) > 400
    · exact ⟨false, by rw [if_pos h], fun h => by cases h⟩
    · refine ⟨b, by rw [if_neg h], fun hb x hx' => ?_⟩
      rw [List.drop_eq_getElem_cons hil] at hx'
      rcases List.mem_cons.1 hx' with rfl | hx'
      · rw [er] at h; omega
      · exact hx hb x hx'
theorem few_eq (l : List S56) (nx : Int) (k : Nat) (hk : 14 ≤ k) : ∃ b, midrangelaw04_few.f k l nx = some b ∧ (b = true → small l) := by
  unfold midrangelaw04_few.f
  by_cases h : (l.length : Int) > 12
  · exact ⟨false, by rw [if_pos h], fun h => by cases h⟩
  · rw [if_neg h]
    obtain ⟨b, hb, hx⟩ := few_loop l nx (by omega) l.length 0 k (by omega) (by omega)
    exact ⟨b, hb, fun h' => ⟨by omega, by simpa using hx h'⟩⟩
theorem own_eq (l : List S56) (nx : Int) (hl : l.length ≤ 5864062014804) : midrangeref04_Own.f l nx = some (l, nx) := by
  unfold midrangeref04_Own.f
  rw [if_pos (by simp; omega)]
  rfl
theorem awake_eq (k : Nat) (hk : 60 ≤ k) : midrangelaw04_awake.f k = some true :=
  at_rounds (g := fun k => midrangelaw04_awake.f k) (fun k => midrangelaw04_awake.mono k) hk (by decide +kernel)
end Go.Proofs.Ytoabahlaicgmjaa.Q
end
section
namespace Go.Proofs.Ytoabahlaicgmjaa.Q
open Go.RowKit Go.Proofs.Ytoabahlaicgmjaa.X Go.Proofs.YtoabahlaicgmjaaW.PrintWords Go.Proofs.YtoabahlaicgmjaaW.PrintLast Go.Proofs.YtoabahlaicgmjaaW.PrintMore
set_option linter.unusedVariables false
set_option linter.unusedSimpArgs false

/-! ### What a right store is -/
structure Right (l : List S56) (nx : Int) : Prop where
  len : l.length ≤ 10
  nx1 : 1 ≤ nx
  nx2 : nx ≤ 1001
  each : ∀ i, i < l.length → bad l nx i = none
theorem chkFrom_ok (l : List S56) (nx : Int) : ∀ (d i : Nat), (chkFrom l nx d i).2 = 0 → (chkFrom l nx d i).1 = 0 ∧ ∀ j, i ≤ j → j < i + d → bad l nx j = none
  | 0, i, _ => ⟨rfl, fun j h1 h2 => by omega⟩
  | d + 1, i, h => by
    unfold chkFrom at h ⊢
    cases hb : bad l nx i with
    | some e =>
      rw [hb] at h
      have he : e ≠ 0 := by
        unfold bad at hb
        split at hb
        · injection hb with hb; omega
        · split at hb
          · injection hb with hb; omega
          · split at hb
            · injection hb with hb; omega
            · cases hb
      exact absurd h he
    | none =>
      rw [hb] at h
      obtain ⟨h1, h2⟩ := chkFrom_ok l nx d (i + 1) h
      refine ⟨h1, fun j hj1 hj2 => ?_⟩
      rcases Nat.eq_or_lt_of_le hj1 with rfl | hj
      · exact hb
      · exact h2 j hj (by omega)
theorem right_of (l : List S56) (nx : Int) (h : (chk l nx).2 = 0) : Right l nx ∧ (chk l nx).1 = 0 := by
  unfold chk at h ⊢
  by_cases h1 : 10 < l.length
  · rw [if_pos h1] at h; exact absurd h (by decide)
  · rw [if_neg h1] at h ⊢
    by_cases h2 : ¬ (1 ≤ nx ∧ nx ≤ 1001)
    · rw [if_pos h2] at h; exact absurd h (by decide)
    · rw [if_neg h2] at h ⊢
      have h3 := Decidable.not_not.mp h2
      obtain ⟨h4, h5⟩ := chkFrom_ok l nx l.length 0 h
      exact ⟨⟨by omega, h3.1, h3.2, fun i hi => h5 i (by omega) (by omega)⟩, h4⟩
theorem bad_none {l : List S56} {nx : Int} {i : Nat} (h : bad l nx i = none) :
    (1 ≤ (rd_T56 l i).f0 ∧ (rd_T56 l i).f0 ≤ wrap64 (nx - 1)) ∧ (0 < i → (rd_T56 l ((i : Int) - 1)).f0 < (rd_T56 l i).f0) ∧
    (((rd_T56 l i).f1.size : Int) % 32 = 0 ∧ 1 ≤ wrap64 (((rd_T56 l i).f1.size : Int) / 32) ∧ wrap64 (((rd_T56 l i).f1.size : Int) / 32) ≤ 8) := by
  unfold bad at h
  split at h
  · cases h
  · rename_i h1
    split at h
    · cases h
    · rename_i h2
      split at h
      · cases h
      · rename_i h3
        refine ⟨Decidable.not_not.mp h1, fun hi => ?_, Decidable.not_not.mp h3⟩
        have : ¬ (rd_T56 l i).f0 ≤ (rd_T56 l ((i : Int) - 1)).f0 := fun h => h2 ⟨hi, h⟩
        omega
theorem Right.num {l : List S56} {nx : Int} (h : Right l nx) (i : Nat) (hi : i < l.length) : 1 ≤ (rd_T56 l i).f0 ∧ (rd_T56 l i).f0 ≤ 1000 := by
  have h1 := (bad_none (h.each i hi)).1
  have h2 := h.nx1
  have h3 := h.nx2
  rw [w64 (by omega) (by omega)] at h1
  omega
theorem Right.mono {l : List S56} {nx : Int} (h : Right l nx) (i : Nat) : ∀ j, i < j → j < l.length → (rd_T56 l i).f0 < (rd_T56 l j).f0
  | 0, h1, _ => by omega
  | j + 1, h1, h2 => by
    have h3 := (bad_none (h.each (j + 1) h2)).2.1 (by omega)
    rw [show (((j + 1 : Nat) : Int) - 1) = (j : Int) by omega] at h3
    rcases Nat.eq_or_lt_of_le (Nat.le_of_lt_succ h1) with rfl | h4
    · exact h3
    · have := Right.mono h i j h4 (by omega)
      omega

/-! ### The binary search -/
theorem bs_step (k : Nat) (l : List S56) (n len lo hi m : Int) (em : wrap64 ((IntKind.u64.wrap (wrap64 (lo + hi))) / 2) = m) (h : lo < hi) (h0 : 0 ≤ m) (h1 : m < (l.length : Int)) :
    slices_BinarySearchFunc_at_segment_find_1.l0 (k + 1) l n len lo hi = if wrap64 ((rd_T56 l m).f0 - n) < 0 then slices_BinarySearchFunc_at_segment_find_1.l0 k l n len (wrap64 (m + 1)) hi else slices_BinarySearchFunc_at_segment_find_1.l0 k l n len lo m := by
  rw [slices_BinarySearchFunc_at_segment_find_1.l0, em, if_pos h, if_pos h0, if_pos h1, segment_find_1.f, Option.bind_some]
theorem bs_end (k : Nat) (l : List S56) (n lo hi : Int) (h : ¬ lo < hi) (h0 : 0 ≤ lo) :
    slices_BinarySearchFunc_at_segment_find_1.l0 (k + 1) l n (l.length : Int) lo hi = if lo < (l.length : Int) then some (lo, wrap64 ((rd_T56 l lo).f0 - n) == 0) else some (lo, false) := by
  rw [slices_BinarySearchFunc_at_segment_find_1.l0, if_neg h]
  by_cases h1 : lo < (l.length : Int)
  · rw [if_pos h1, if_pos h1, if_pos h0, if_pos h1, segment_find_1.f, Option.bind_some]
  · rw [if_neg h1, if_neg h1]
theorem mid_eq (lo hi : Nat) (h : hi ≤ 10) (h2 : lo ≤ hi) : wrap64 ((IntKind.u64.wrap (wrap64 ((lo : Int) + (hi : Int)))) / 2) = (((lo + hi) / 2 : Nat) : Int) := by
  have h3 : wrap64 ((lo : Int) + (hi : Int)) = ((lo + hi : Nat) : Int) := by rw [w64 (by omega) (by omega)]; omega
  rw [h3]
  have h4 : lo + hi ≤ 20 := by omega
  generalize lo + hi = q at *
  have h5 : IntKind.u64.wrap (q : Int) = (q : Int) := by
    have h6 : IntKind.u64.wrap (q : Int) = (q : Int) % 18446744073709551616 := by simp [IntKind.wrap, IntKind.signed, IntKind.bits]
    rw [h6]
    omega
  rw [h5, w64 (by omega) (by omega)]
  omega
theorem bs_sub_neg {x n : Int} (hn : -9223372036854775808 ≤ n ∧ n ≤ 9223372036854775807) (hx : 1 ≤ x ∧ x ≤ 1000) (h : wrap64 (x - n) < 0) : ¬ (1 ≤ n ∧ n ≤ x) := by
  intro h1
  rw [w64 (by omega) (by omega)] at h
  omega
theorem bs_sub_pos {x n : Int} (hn : -9223372036854775808 ≤ n ∧ n ≤ 9223372036854775807) (hx : 1 ≤ x ∧ x ≤ 1000) (h : ¬ wrap64 (x - n) < 0) : ¬ (x < n ∧ n ≤ 1000) := by
  intro h1
  rw [w64 (by omega) (by omega)] at h
  omega
theorem bs_sub_zero {x n : Int} (hn : -9223372036854775808 ≤ n ∧ n ≤ 9223372036854775807) (hx : 1 ≤ x ∧ x ≤ 1000) (h : (wrap64 (x - n) == 0) = true) : x = n := by
  have h' := eq_of_beq h
  unfold wrap64 at h'
  omega
theorem wsucc (m : Nat) (h : m < 10000) : wrap64 ((m : Int) + 1) = ((m + 1 : Nat) : Int) := by
  rw [w64 (by omega) (by omega)]
  omega
theorem bs_sub_self (n : Int) : (wrap64 (n - n) == 0) = true := by
  rw [Int.sub_self, w64 (by omega) (by omega)]; rfl
theorem bs_fin (l : List S56) (n : Int) (hn : -9223372036854775808 ≤ n ∧ n ≤ 9223372036854775807) (hnum : ∀ i : Nat, i < l.length → 1 ≤ (rd_T56 l (i : Int)).f0 ∧ (rd_T56 l (i : Int)).f0 ≤ 1000)
    (lo k : Nat) (hlo : lo ≤ l.length) : ∃ (i : Nat) (b : Bool), slices_BinarySearchFunc_at_segment_find_1.l0 (k + 1) l n (l.length : Int) (lo : Int) (lo : Int) = some ((i : Int), b) ∧ i ≤ l.length ∧
      (b = true → i < l.length ∧ (rd_T56 l (i : Int)).f0 = n) ∧ (∀ j : Nat, lo ≤ j → j < lo → (rd_T56 l (j : Int)).f0 = n → b = true) ∧ (lo < l.length → (rd_T56 l (lo : Int)).f0 = n → b = true) := by
  rw [bs_end k l n lo lo (by omega) (by omega)]
  by_cases h : lo < l.length
  · rw [if_pos (by omega)]
    have h1 := hnum lo h
    refine ⟨lo, _, rfl, hlo, fun hb => ⟨h, bs_sub_zero hn h1 hb⟩, fun j h2 h3 => by omega, fun _ he => ?_⟩
    rw [he]
    exact bs_sub_self n
  · rw [if_neg (by omega)]
    exact ⟨lo, false, rfl, hlo, (fun hb => by cases hb), (fun j h2 h3 => by omega), (fun h2 => by omega)⟩
theorem bs_loop (l : List S56) (n : Int) (hl : l.length ≤ 10) (hn : -9223372036854775808 ≤ n ∧ n ≤ 9223372036854775807) (hnum : ∀ i : Nat, i < l.length → 1 ≤ (rd_T56 l (i : Int)).f0 ∧ (rd_T56 l (i : Int)).f0 ≤ 1000)
    (hmono : ∀ i j : Nat, i < j → j < l.length → (rd_T56 l (i : Int)).f0 < (rd_T56 l (j : Int)).f0) (d : Nat) : ∀ (lo hi k : Nat), lo ≤ hi → hi ≤ l.length → hi - lo ≤ d → d + 1 ≤ k →
    ∃ (i : Nat) (b : Bool), slices_BinarySearchFunc_at_segment_find_1.l0 k l n (l.length : Int) (lo : Int) (hi : Int) = some ((i : Int), b) ∧ i ≤ l.length ∧
      (b = true → i < l.length ∧ (rd_T56 l (i : Int)).f0 = n) ∧ (∀ j : Nat, lo ≤ j → j < hi → (rd_T56 l (j : Int)).f0 = n → b = true) ∧ (hi < l.length → (rd_T56 l (hi : Int)).f0 = n → b = true) := by
  induction d with
  | zero =>
    intro lo hi k h1 h2 h3 hk
    obtain rfl : hi = lo := by omega
    obtain ⟨k, rfl⟩ : ∃ m, k = m + 1 := ⟨k - 1, by omega⟩
    exact bs_fin l n hn hnum hi k h2
  | succ d ih =>
    intro lo hi k h1 h2 h3 hk
    obtain ⟨k, rfl⟩ : ∃ m, k = m + 1 := ⟨k - 1, by omega⟩
    rcases Nat.eq_or_lt_of_le h1 with rfl | h4
    · exact bs_fin l n hn hnum lo k h2
    · obtain ⟨m, em, hm1, hm2⟩ : ∃ m : Nat, wrap64 ((IntKind.u64.wrap (wrap64 ((lo : Int) + (hi : Int)))) / 2) = (m : Int) ∧ m < hi ∧ lo ≤ m := ⟨(lo + hi) / 2, mid_eq lo hi (by omega) h1, by omega, by omega⟩
      have hy := hnum m (by omega)
      have hmz : (0 : Int) ≤ (m : Int) := Int.natCast_nonneg m
      have hml : (m : Int) < (l.length : Int) := Int.ofNat_lt.mpr (Nat.lt_of_lt_of_le hm1 h2)
      have hlh : (lo : Int) < (hi : Int) := Int.ofNat_lt.mpr h4
      rw [bs_step k l n _ _ _ _ em hlh hmz hml]
      clear em
      by_cases hlt : wrap64 ((rd_T56 l (m : Int)).f0 - n) < 0
      · rw [if_pos hlt, wsucc m (by clear hlt; omega)]
        have hneg := bs_sub_neg hn hy hlt
        clear hlt
        obtain ⟨i, b, hr, hi1, hi2, hi3, hi4⟩ := ih (m + 1) hi k (by omega) h2 (by omega) (by omega)
        refine ⟨i, b, hr, hi1, hi2, fun j hj1 hj2 hj3 => ?_, hi4⟩
        rcases Nat.lt_or_ge m j with hj | hj
        · exact hi3 j (by omega) hj2 hj3
        · exfalso
          have h5 := hnum j (by omega)
          have h6 : (rd_T56 l (j : Int)).f0 ≤ (rd_T56 l (m : Int)).f0 := by
            rcases Nat.eq_or_lt_of_le hj with rfl | hj
            · exact Int.le_refl _
            · exact Int.le_of_lt (hmono j m hj (by omega))
          exact hneg ⟨by omega, by omega⟩
      · rw [if_neg hlt]
        have hneg := bs_sub_pos hn hy hlt
        clear hlt
        obtain ⟨i, b, hr, hi1, hi2, hi3, hi4⟩ := ih lo m k (by omega) (by omega) (by omega) (by omega)
        have hge : ∀ j : Nat, m ≤ j → j < l.length → (rd_T56 l (j : Int)).f0 = n → b = true := by
          intro j hj1 hj2 hj3
          rcases Nat.eq_or_lt_of_le hj1 with rfl | hj
          · exact hi4 (by omega) hj3
          · exfalso
            have h5 := hnum j hj2
            have h6 := hmono m j hj hj2
            exact hneg ⟨by omega, by omega⟩
        refine ⟨i, b, hr, hi1, hi2, fun j hj1 hj2 hj3 => ?_, fun hh he => hge hi (by omega) hh he⟩
        rcases Nat.lt_or_ge j m with hj | hj
        · exact hi3 j hj1 hj hj3
        · exact hge j hj (by omega) hj3

/-! ### The linear search -/
theorem place_loop (l : List S56) (nx n : Int) (hl : l.length ≤ 10) (d : Nat) : ∀ (i k : Nat), i + d = l.length → d + 1 ≤ k →
    (∃ j, i ≤ j ∧ j < l.length ∧ (rd_T56 l j).f0 = n ∧ midrangeref04_Place.l0 k n (i : Int) l nx = some (j : Int)) ∨ ((∀ j, i ≤ j → j < l.length → (rd_T56 l j).f0 ≠ n) ∧ midrangeref04_Place.l0 k n (i : Int) l nx = some (-1)) := by
  induction d with
  | zero =>
    intro i k hi hk
    obtain ⟨k, rfl⟩ : ∃ m, k = m + 1 := ⟨k - 1, by omega⟩
    right
    refine ⟨fun j h1 h2 => by omega, ?_⟩
    rw [midrangeref04_Place.l0, if_neg (by omega)]
  | succ d ih =>
    intro i k hi hk
    obtain ⟨k, rfl⟩ : ∃ m, k = m + 1 := ⟨k - 1, by omega⟩
    have e1 : wrap64 ((i : Int) + 1) = ((i + 1 : Nat) : Int) := by rw [w64 (by omega) (by omega)]; omega
    rw [midrangeref04_Place.l0, if_pos (by omega), if_pos (by omega), e1]
    by_cases h : (rd_T56 l i).f0 = n
    · rw [if_pos h]
      exact .inl ⟨i, Nat.le_refl _, by omega, h, rfl⟩
    · rw [if_neg h]
      rcases ih (i + 1) k (by omega) (by omega) with ⟨j, h1, h2, h3, h4⟩ | ⟨h1, h2⟩
      · exact .inl ⟨j, by omega, h2, h3, h4⟩
      · refine .inr ⟨fun j h3 h4 => ?_, h2⟩
        rcases Nat.eq_or_lt_of_le h3 with rfl | h5
        · exact h
        · exact h1 j h5 h4

/-- What both know of a segment: its place, or one error. -/
theorem find_known (l : List S56) (nx n : Int) (k : Nat) (hk : 40 ≤ k) (hn : -9223372036854775808 ≤ n ∧ n ≤ 9223372036854775807) :
    (∃ (e p : Int), e ≠ 0 ∧ segment_find.f k l nx n = some (0, e) ∧ midrangeref04_known.f k l nx n = some (p, e)) ∨
    (∃ j : Nat, j < l.length ∧ (rd_T56 l j).f0 = n ∧ Right l nx ∧ segment_find.f k l nx n = some ((j : Int), 0) ∧ midrangeref04_known.f k l nx n = some ((j : Int), 0)) := by
  unfold segment_find.f midrangeref04_known.f
  rw [check_eq l nx k (by omega), Err_eq l nx k (by omega), Option.bind_some, Option.bind_some]
  by_cases h : (chk l nx).2 = 0
  · rw [if_pos h, if_pos h]
    obtain ⟨R, _⟩ := right_of l nx h
    have hpl : midrangeref04_Place.f k l nx n = midrangeref04_Place.l0 k n ((0 : Nat) : Int) l nx := rfl
    obtain ⟨i, b, hb, hb1, hb2, hb3, _⟩ := bs_loop l n R.len hn R.num (fun i j => R.mono i j) l.length 0 l.length k (by omega) (Nat.le_refl _) (by omega) (by have := R.len; omega)
    have hb0 : slices_BinarySearchFunc_at_segment_find_1.f k l n = some ((i : Int), b) := hb
    rw [hb0, Option.bind_some, within_eq, Option.bind_some]
    rcases place_loop l nx n R.len l.length 0 k (by omega) (by have := R.len; omega) with ⟨j, h1, h2, h3, h4⟩ | ⟨h1, h2⟩
    · right
      have hbt := hb3 j h1 h2 h3
      obtain ⟨hi1, hi2⟩ := hb2 hbt
      have hij : i = j := by
        rcases Nat.lt_trichotomy i j with h5 | h5 | h5
        · have := R.mono i j h5 h2; omega
        · exact h5
        · have := R.mono j i h5 hi1; omega
      subst hij
      refine ⟨i, h2, h3, R, by rw [if_pos hbt], ?_⟩
      rw [hpl, h4, Option.bind_some, midrangeref04_NumberErr.f, hpl, h4, Option.bind_some, if_neg (by omega)]
      rfl
    · left
      have hbf : b = false := by
        cases b with
        | false => rfl
        | true => exact absurd (hb2 rfl).2 (h1 i (Nat.zero_le _) (hb2 rfl).1)
      subst hbf
      rw [if_neg (by simp), hpl, h2, Option.bind_some, midrangeref04_NumberErr.f, hpl, h2, Option.bind_some, if_pos rfl, Within_eq, Option.bind_some]
      simp only [decide_eq_true_eq]
      by_cases h5 : 1 ≤ n ∧ n ≤ wrap64 (nx - 1)
      · rw [if_pos h5, if_pos h5]
        exact ⟨24, -1, by decide, rfl, rfl⟩
      · rw [if_neg h5, if_neg h5]
        exact ⟨11, -1, by decide, rfl, rfl⟩
  · rw [if_neg h, if_neg h]
    exact .inl ⟨_, -1, h, rfl, rfl⟩

/-! ### Pages of zeros; whether two answers are one -/
def zer (n : Nat) : ByteArray := ⟨(List.replicate n (0 : UInt8)).toArray⟩
theorem pages_eq (n : Int) (h0 : 0 ≤ n) (h1 : n ≤ 8) : segment_pages.f n = some (zer (n.toNat * 32)) := by
  unfold segment_pages.f strings_Repeat.f
  have e : wrap64 (n * 32) = n * 32 := w64 (by omega) (by omega)
  have hs : (⟨#[0]⟩ : ByteArray).size = 1 := rfl
  rw [e, if_pos (by omega), if_pos (by omega), hs, if_pos (by omega), Option.bind_some]
  have : (n * 32).toNat = n.toNat * 32 := by omega
  rw [this]
  have h2 : Lib.repeatL (⟨#[0]⟩ : ByteArray).data.toList (n.toNat * 32) = List.replicate (n.toNat * 32 * 1) (0 : UInt8) := Lib.repeatL_replicate 0 1 _
  rw [h2, Nat.mul_one]
  rfl
theorem zeros_loop (m : Nat) (hm : m ≤ 256) (d : Nat) : ∀ (i k : Nat), i + d = m → d + 1 ≤ k → midrangebase_Repeat.l0 k 0 (m : Int) (List.replicate i 0) (i : Int) = some (strOfNums (List.replicate m 0)) := by
  induction d with
  | zero =>
    intro i k hi hk
    obtain ⟨k, rfl⟩ : ∃ q, k = q + 1 := ⟨k - 1, by omega⟩
    obtain rfl : i = m := by omega
    rw [midrangebase_Repeat.l0, if_neg (by omega)]
  | succ d ih =>
    intro i k hi hk
    obtain ⟨k, rfl⟩ : ∃ q, k = q + 1 := ⟨k - 1, by omega⟩
    have e1 : wrap64 ((i : Int) + 1) = ((i + 1 : Nat) : Int) := by rw [w64 (by omega) (by omega)]; omega
    rw [midrangebase_Repeat.l0, if_pos (by omega), if_pos (by simp; omega), e1, ← ih (i + 1) k (by omega) (by omega), List.replicate_succ']
theorem Zeros_eq (n : Int) (k : Nat) (hk : 300 ≤ k) (h0 : 0 ≤ n) (h1 : n ≤ 8) : midrangeref04_Zeros.f k (n * 32) = some (zer (n.toNat * 32)) := by
  unfold midrangeref04_Zeros.f midrangebase_Repeat.f
  have h := zeros_loop (n.toNat * 32) (by omega) (n.toNat * 32) 0 k (by omega) (by omega)
  rw [show ((n.toNat * 32 : Nat) : Int) = n * 32 by omega] at h
  have h' : midrangebase_Repeat.l0 k 0 (n * 32) ([] : List Int) 0 = some (strOfNums (List.replicate (n.toNat * 32) 0)) := h
  rw [h', Option.bind_some]
  congr 1
  apply ByteArray.ext
  apply Array.ext'
  simp [strOfNums, zer]
theorem same_loop (l : List S56) (nx : Int) (hl : l.length ≤ 100) (d : Nat) : ∀ (i k : Nat), i + d = l.length → d + 1 ≤ k → midrangeref04_Same.l0 k (i : Int) l nx l nx = some true := by
  induction d with
  | zero =>
    intro i k hi hk
    obtain ⟨k, rfl⟩ : ∃ q, k = q + 1 := ⟨k - 1, by omega⟩
    rw [midrangeref04_Same.l0, if_neg (by omega)]
  | succ d ih =>
    intro i k hi hk
    obtain ⟨k, rfl⟩ : ∃ q, k = q + 1 := ⟨k - 1, by omega⟩
    have e1 : wrap64 ((i : Int) + 1) = ((i + 1 : Nat) : Int) := by rw [w64 (by omega) (by omega)]; omega
    rw [midrangeref04_Same.l0, if_pos (by omega), if_pos (by omega), if_pos (by omega), if_neg (by simp), e1]
    exact ih (i + 1) k (by omega) (by omega)
theorem same_eq (l : List S56) (nx : Int) (hl : l.length ≤ 100) (k : Nat) (hk : 103 ≤ k) : midrangeref04_Same.f k l nx l nx = some true := by
  unfold midrangeref04_Same.f
  obtain ⟨k, rfl⟩ : ∃ q, k = q + 1 := ⟨k - 1, by omega⟩
  rw [if_pos rfl, midrangeref04_Same.j0, if_neg (by simp)]
  exact same_loop l nx hl l.length 0 k (by omega) (by omega)
theorem is_eq (l : List S56) (nx e x : Int) (s : ByteArray) (hl : l.length ≤ 100) (k : Nat) (hk : 103 ≤ k) : midrangelaw04_is.f k l nx e l nx x s e = some true := by
  unfold midrangelaw04_is.f
  rw [if_pos rfl, same_eq l nx hl k hk]
  rfl
end Go.Proofs.Ytoabahlaicgmjaa.Q
end
section
namespace Go.Proofs.Ytoabahlaicgmjaa.Q
open Go.RowKit Go.Proofs.Ytoabahlaicgmjaa.X Go.Proofs.YtoabahlaicgmjaaW.PrintWords Go.Proofs.YtoabahlaicgmjaaW.PrintLast Go.Proofs.YtoabahlaicgmjaaW.PrintMore
set_option linter.unusedVariables false
set_option linter.unusedSimpArgs false

/-! ### A segment created, destroyed -/
theorem clone_eq (l : List S56) (hl : l.length ≤ 1000) : api_Segment_38.f l = some l := by
  unfold api_Segment_38.f
  rw [if_pos (by omega)]
/-- What the store behind a creation is, or the error. -/
def created (l : List S56) (nx p : Int) : List S56 × Int × Int × Int :=
  if (chk l nx).2 ≠ 0 then ([], 0, 0, (chk l nx).2) else if ¬ (1 ≤ p ∧ p ≤ 8) then ([], 0, 0, 3)
  else if l.length = 10 ∨ 1000 < nx then ([], 0, 0, 30) else (l ++ [⟨nx, zer (p.toNat * 32)⟩], wrap64 (nx + 1), nx, 0)
theorem created_eq (l : List S56) (nx p : Int) (k : Nat) (hk : 400 ≤ k) : segment_Created.f k l nx p = some (created l nx p) := by
  unfold segment_Created.f created
  rw [check_eq l nx k (by omega), Option.bind_some]
  by_cases h : (chk l nx).2 = 0
  · obtain ⟨R, _⟩ := right_of l nx h
    have hl := R.len
    rw [if_pos h, if_neg (not_not_intro h), within_eq, Option.bind_some]
    simp only [decide_eq_true_eq]
    by_cases hp : 1 ≤ p ∧ p ≤ 8
    · rw [if_pos hp, if_neg (not_not_intro hp)]
      obtain ⟨k, rfl⟩ : ∃ q, k = q + 1 := ⟨k - 1, by omega⟩
      have fin : ∀ b : Bool, (b = true ↔ (l.length = 10 ∨ 1000 < nx)) → segment_Created.j0 (k + 1) p b l nx = some (if l.length = 10 ∨ 1000 < nx then ([], 0, 0, 30) else (l ++ [⟨nx, zer (p.toNat * 32)⟩], wrap64 (nx + 1), nx, 0)) := by
        intro b hb
        rw [segment_Created.j0]
        by_cases h2 : l.length = 10 ∨ 1000 < nx
        · rw [if_pos (hb.2 h2), if_pos h2]
        · rw [if_neg (fun h => h2 (hb.1 h)), if_neg h2, clone_eq l (by omega), Option.bind_some, pages_eq p (by omega) (by omega), Option.bind_some, if_pos (by omega)]
      by_cases h3 : (l.length : Int) = 10
      · rw [if_pos h3]
        exact fin _ ⟨fun _ => .inl (by omega), fun _ => by rw [h3]; rfl⟩
      · rw [if_neg h3]
        refine fin _ ?_
        rw [decide_eq_true_eq]
        exact ⟨fun h => .inr h, fun h => by rcases h with h | h <;> omega⟩
    · rw [if_neg hp, if_pos hp]
  · rw [if_neg h, if_pos h]
theorem Created_eq (l : List S56) (nx p : Int) (k : Nat) (hk : 400 ≤ k) : midrangeref04_Created.f k l nx p = some ((created l nx p).1, (created l nx p).2.1, (created l nx p).2.2.1, (⟨#[]⟩ : ByteArray), (created l nx p).2.2.2) := by
  unfold midrangeref04_Created.f created
  rw [Err_eq l nx k (by omega), Option.bind_some]
  by_cases h : (chk l nx).2 = 0
  · obtain ⟨R, _⟩ := right_of l nx h
    have hl := R.len
    rw [if_pos h, if_neg (not_not_intro h), Within_eq, Option.bind_some]
    simp only [decide_eq_true_eq]
    by_cases hp : 1 ≤ p ∧ p ≤ 8
    · rw [if_pos hp, if_neg (not_not_intro hp)]
      obtain ⟨k, rfl⟩ : ∃ q, k = q + 1 := ⟨k - 1, by omega⟩
      have fin : ∀ b : Bool, (b = true ↔ (l.length = 10 ∨ 1000 < nx)) → midrangeref04_Created.j0 (k + 1) p b l nx = some ((if l.length = 10 ∨ 1000 < nx then ([], 0, 0, 30) else (l ++ [⟨nx, zer (p.toNat * 32)⟩], wrap64 (nx + 1), nx, 0) : List S56 × Int × Int × Int).1, (if l.length = 10 ∨ 1000 < nx then ([], 0, 0, 30) else (l ++ [⟨nx, zer (p.toNat * 32)⟩], wrap64 (nx + 1), nx, 0) : List S56 × Int × Int × Int).2.1, (if l.length = 10 ∨ 1000 < nx then ([], 0, 0, 30) else (l ++ [⟨nx, zer (p.toNat * 32)⟩], wrap64 (nx + 1), nx, 0) : List S56 × Int × Int × Int).2.2.1, (⟨#[]⟩ : ByteArray), (if l.length = 10 ∨ 1000 < nx then ([], 0, 0, 30) else (l ++ [⟨nx, zer (p.toNat * 32)⟩], wrap64 (nx + 1), nx, 0) : List S56 × Int × Int × Int).2.2.2) := by
        intro b hb
        rw [midrangeref04_Created.j0]
        by_cases h2 : l.length = 10 ∨ 1000 < nx
        · rw [if_pos (hb.2 h2)]
          simp only [if_pos h2]
          rfl
        · rw [if_neg (fun h => h2 (hb.1 h)), own_eq l nx (by omega), Option.bind_some, w64 (x := p * 32) (by omega) (by omega), Zeros_eq p k (by omega) (by omega) (by omega), Option.bind_some, if_pos (by show l.length < _; omega)]
          simp only [if_neg h2]
      by_cases h3 : (l.length : Int) = 10
      · rw [if_pos h3]
        exact fin _ ⟨fun _ => .inl (by omega), fun _ => rfl⟩
      · rw [if_neg h3]
        refine fin _ ?_
        rw [decide_eq_true_eq]
        exact ⟨fun h => .inr h, fun h => by rcases h with h | h <;> omega⟩
    · rw [if_neg hp]
      simp only [if_pos hp]
      rfl
  · rw [if_neg h]
    simp only [if_pos h]
theorem created_post (l : List S56) (nx p : Int) (h : (created l nx p).2.2.2 = 0) : Right l nx ∧ 1 ≤ p ∧ p ≤ 8 ∧ l.length < 10 ∧ nx ≤ 1000 ∧ created l nx p = (l ++ [⟨nx, zer (p.toNat * 32)⟩], nx + 1, nx, 0) := by
  unfold created at h ⊢
  by_cases h1 : (chk l nx).2 = 0
  · obtain ⟨R, _⟩ := right_of l nx h1
    have hl := R.len
    have hn := R.nx1
    rw [if_neg (not_not_intro h1)] at h ⊢
    by_cases hp : 1 ≤ p ∧ p ≤ 8
    · rw [if_neg (not_not_intro hp)] at h ⊢
      by_cases h2 : l.length = 10 ∨ 1000 < nx
      · rw [if_pos h2] at h; exact absurd h (by decide)
      · rw [if_neg h2, w64 (x := nx + 1) (by omega) (by omega)]
        exact ⟨R, hp.1, hp.2, by omega, by omega, rfl⟩
    · rw [if_pos hp] at h; exact absurd h (by decide)
  · rw [if_pos h1] at h; exact absurd h h1
theorem destroyed_both (l : List S56) (nx n : Int) (k : Nat) (hk : 40 ≤ k) (hn : -9223372036854775808 ≤ n ∧ n ≤ 9223372036854775807) :
    ∃ (l' : List S56) (nx' e : Int), l'.length ≤ 10 ∧ segment_Destroyed.f k l nx n = some (l', nx', e) ∧ midrangeref04_Destroyed.f k l nx n = some (l', nx', 0, (⟨#[]⟩ : ByteArray), e) ∧
    (e = 0 → ∃ j : Nat, j < l.length ∧ (rd_T56 l (j : Int)).f0 = n ∧ Right l nx ∧ nx' = nx ∧ l' = l.eraseIdx j) := by
  unfold segment_Destroyed.f midrangeref04_Destroyed.f
  rcases find_known l nx n k hk hn with ⟨e, p, h1, h2, h3⟩ | ⟨j, h1, hjn, R, h2, h3⟩
  · rw [h2, h3, Option.bind_some, Option.bind_some, if_neg h1, if_neg h1]
    exact ⟨[], 0, e, by simp, rfl, rfl, fun h => absurd h h1⟩
  · have hl := R.len
    have e1 : wrap64 ((j : Int) + 1) = (j : Int) + 1 := w64 (by omega) (by omega)
    rw [h2, h3, Option.bind_some, Option.bind_some, if_pos rfl, if_pos rfl, clone_eq l (by omega), Option.bind_some, own_eq l nx (by omega), Option.bind_some, e1, if_pos (by omega), if_pos (by show (j : Int) ≤ (l.length : Int); omega), if_pos (by omega), if_pos (by show (j : Int) + 1 ≤ (l.length : Int); omega)]
    unfold api_Segment_41.f
    rw [if_pos rfl, if_pos (by omega), if_pos (by omega), Option.bind_some]
    exact ⟨l.eraseIdx j, nx, 0, by have := List.length_eraseIdx_le l j; omega, by simp, by simp, fun _ => ⟨j, h1, hjn, R, rfl, rfl⟩⟩
end Go.Proofs.Ytoabahlaicgmjaa.Q
end
section
namespace Go.Proofs.Ytoabahlaicgmjaa.Q
open Go.RowKit Go.Proofs.Ytoabahlaicgmjaa.X Go.Proofs.YtoabahlaicgmjaaW.PrintWords Go.Proofs.YtoabahlaicgmjaaW.PrintLast Go.Proofs.YtoabahlaicgmjaaW.PrintMore
set_option linter.unusedVariables false
set_option linter.unusedSimpArgs false

/-! ### Extended, truncated; bytes read and written: both sides alike -/
theorem with_eq (l : List S56) (nx : Int) (j : Nat) (b : ByteArray) (hl : l.length ≤ 12) (hj : j < l.length) :
    segment_with.f l nx (j : Int) b = some (l.set j ⟨(rd_T56 l (j : Int)).f0, b⟩, nx) ∧ midrangeref04_with.f l nx (j : Int) b = some (l.set j ⟨(rd_T56 l (j : Int)).f0, b⟩, nx) := by
  have h0 : (0 : Int) ≤ (j : Int) := Int.natCast_nonneg j
  have h1 : (j : Int) < (l.length : Int) := Int.ofNat_lt.mpr hj
  constructor
  · unfold segment_with.f
    rw [clone_eq l (by omega), Option.bind_some, if_pos h0, if_pos h1]
    rfl
  · unfold midrangeref04_with.f
    rw [own_eq l nx (by omega), Option.bind_some, if_pos h0, if_pos h1]
    rfl
theorem rd_mem (l : List S56) (j : Nat) (hj : j < l.length) : rd_T56 l (j : Int) ∈ l := by
  have : rd_T56 l (j : Int) = l.getD j z56 := rfl
  rw [this, List.getD_eq_getElem?_getD, List.getElem?_eq_getElem hj]
  exact List.getElem_mem hj
theorem size_of {l : List S56} {nx : Int} (R : Right l nx) (hx : ∀ y ∈ l, ok56 y) (j : Nat) (hj : j < l.length) :
    ∃ q : Nat, (rd_T56 l (j : Int)).f1.size = q * 32 ∧ 1 ≤ q ∧ q ≤ 8 := by
  have h1 := (bad_none (R.each j hj)).2.2
  have h2 := (hx _ (rd_mem l j hj)).2
  generalize (rd_T56 l (j : Int)).f1.size = s at h1 h2
  obtain ⟨ha, hb, hc⟩ := h1
  rw [w64 (by omega) (by omega)] at hb hc
  exact ⟨s / 32, by omega, by omega, by omega⟩
theorem zer_size (n : Nat) : (zer n).size = n := by
  show (List.replicate n (0 : UInt8)).toArray.size = n
  simp
theorem Pages_eq (s : ByteArray) (q : Nat) (h : s.size = q * 32) (h8 : q ≤ 8) : midrangeref04_Pages.f s = some (q : Int) := by
  unfold midrangeref04_Pages.f
  rw [w64 (by omega) (by omega), h]
  congr 1
  omega
theorem extended_both (l : List S56) (nx n a : Int) (k : Nat) (hk : 400 ≤ k) (hx : ∀ y ∈ l, ok56 y) (h12 : l.length ≤ 12) (hn : -9223372036854775808 ≤ n ∧ n ≤ 9223372036854775807) (ha : -9223372036854775808 ≤ a ∧ a ≤ 9223372036854775807) :
    ∃ (l' : List S56) (nx' e : Int), l'.length ≤ 12 ∧ segment_Extended.f k l nx n a = some (l', nx', e) ∧ midrangeref04_Extended.f k l nx n a = some (l', nx', 0, ⟨#[]⟩, e) ∧
    (e = 0 → ∃ j : Nat, j < l.length ∧ (rd_T56 l (j : Int)).f0 = n ∧ Right l nx ∧ 1 ≤ a ∧ a ≤ 8 ∧ (rd_T56 l (j : Int)).f1.size + a.toNat * 32 ≤ 256 ∧ nx' = nx ∧ l' = l.set j ⟨(rd_T56 l (j : Int)).f0, (rd_T56 l (j : Int)).f1 ++ zer (a.toNat * 32)⟩) := by
  unfold segment_Extended.f midrangeref04_Extended.f
  rcases find_known l nx n k (by omega) hn with ⟨e, p, he, h1, h2⟩ | ⟨j, hj, hjn, R, h1, h2⟩
  · rw [h1, h2, Option.bind_some, Option.bind_some, if_neg he, if_neg he]
    exact ⟨[], 0, e, by simp, rfl, rfl, fun h => absurd h he⟩
  · obtain ⟨q, hq, hq1, hq8⟩ := size_of R hx j hj
    have h0 : (0 : Int) ≤ (j : Int) := Int.natCast_nonneg j
    have hjl : (j : Int) < (l.length : Int) := Int.ofNat_lt.mpr hj
    rw [h1, h2, Option.bind_some, Option.bind_some, if_pos rfl, if_pos rfl, within_eq, Within_eq, Option.bind_some, Option.bind_some]
    simp only [decide_eq_true_eq]
    by_cases h3 : 1 ≤ a ∧ a ≤ 8
    · have hz : (zer (a.toNat * 32)).size ≤ 1000 := by rw [zer_size]; omega
      have hw : wrap64 (((q * 32 : Nat) : Int) / 32) = (q : Int) := by rw [w64 (by omega) (by omega)]; omega
      have ha32 : wrap64 (a * 32) = a * 32 := w64 (by omega) (by omega)
      rw [if_pos h3, if_pos h3, if_pos h0, if_pos h0, if_pos hjl, if_pos hjl, Pages_eq _ q hq hq8, Option.bind_some, hq, hw, pages_eq a (by omega) (by omega), Option.bind_some, ha32, Zeros_eq a k (by omega) (by omega) (by omega), Option.bind_some]
      clear hw ha32
      by_cases h4 : wrap64 ((q : Int) + a) > 8
      · rw [if_pos h4, if_pos h4]
        exact ⟨[], 0, 30, by simp, rfl, rfl, fun h => absurd h (by decide)⟩
      · have hs : q * 32 + (zer (a.toNat * 32)).size ≤ 9223372036854775807 := by clear h4; omega
        obtain ⟨w1, w2⟩ := with_eq l nx j ((rd_T56 l (j : Int)).f1 ++ zer (a.toNat * 32)) h12 hj
        rw [if_neg h4, if_neg h4, if_pos hs, if_pos hs, w1, w2]
        rw [w64 (x := (q : Int) + a) (by clear h4; omega) (by clear h4; omega)] at h4
        exact ⟨_, _, 0, by rw [List.length_set]; exact h12, rfl, rfl, fun _ => ⟨j, hj, hjn, R, h3.1, h3.2, by omega, rfl, rfl⟩⟩
    · rw [if_neg h3, if_neg h3]
      exact ⟨[], 0, 3, by simp, rfl, rfl, fun h => absurd h (by decide)⟩
theorem truncated_both (l : List S56) (nx n a : Int) (k : Nat) (hk : 400 ≤ k) (hx : ∀ y ∈ l, ok56 y) (h12 : l.length ≤ 12) (hn : -9223372036854775808 ≤ n ∧ n ≤ 9223372036854775807) (ha : -9223372036854775808 ≤ a ∧ a ≤ 9223372036854775807) :
    ∃ (l' : List S56) (nx' e : Int), l'.length ≤ 12 ∧ segment_Truncated.f k l nx n a = some (l', nx', e) ∧ midrangeref04_Truncated.f k l nx n a = some (l', nx', 0, ⟨#[]⟩, e) ∧
    (e = 0 → ∃ j : Nat, j < l.length ∧ (rd_T56 l (j : Int)).f0 = n ∧ Right l nx ∧ 1 ≤ a ∧ a * 32 ≤ ((rd_T56 l (j : Int)).f1.size : Int) ∧ nx' = nx ∧ l' = l.set j ⟨(rd_T56 l (j : Int)).f0, (rd_T56 l (j : Int)).f1.extract 0 (a * 32).toNat⟩) := by
  unfold segment_Truncated.f midrangeref04_Truncated.f
  rcases find_known l nx n k (by omega) hn with ⟨e, p, he, h1, h2⟩ | ⟨j, hj, hjn, R, h1, h2⟩
  · rw [h1, h2, Option.bind_some, Option.bind_some, if_neg he, if_neg he]
    exact ⟨[], 0, e, by simp, rfl, rfl, fun h => absurd h he⟩
  · obtain ⟨q, hq, hq1, hq8⟩ := size_of R hx j hj
    have h0 : (0 : Int) ≤ (j : Int) := Int.natCast_nonneg j
    have hjl : (j : Int) < (l.length : Int) := Int.ofNat_lt.mpr hj
    have hw : wrap64 (((q * 32 : Nat) : Int) / 32) = (q : Int) := by rw [w64 (by omega) (by omega)]; omega
    rw [h1, h2, Option.bind_some, Option.bind_some, if_pos rfl, if_pos rfl, if_pos h0, if_pos h0, if_pos hjl, if_pos hjl, Pages_eq _ q hq hq8, Option.bind_some, hq, hw, within_eq, Within_eq, Option.bind_some, Option.bind_some]
    clear hw
    simp only [decide_eq_true_eq]
    by_cases h3 : 1 ≤ a ∧ a ≤ q
    · have ha32 : wrap64 (a * 32) = a * 32 := w64 (by omega) (by omega)
      rw [ha32]
      clear ha32
      have e1 : 0 ≤ a * 32 := by omega
      have e2 : a * 32 ≤ ((q * 32 : Nat) : Int) := by omega
      obtain ⟨w1, w2⟩ := with_eq l nx j ((rd_T56 l (j : Int)).f1.extract 0 (a * 32).toNat) h12 hj
      rw [if_pos h3, if_pos h3, if_pos e1, if_pos e1, if_pos e2, if_pos e2, w1, w2]
      exact ⟨_, _, 0, by rw [List.length_set]; exact h12, rfl, rfl, fun _ => ⟨j, hj, hjn, R, h3.1, by rw [hq]; exact e2, rfl, rfl⟩⟩
    · rw [if_neg h3, if_neg h3]
      exact ⟨[], 0, 3, by simp, rfl, rfl, fun h => absurd h (by decide)⟩
/-- The place that both reach, or one error. -/
theorem reach_both (l : List S56) (nx n o c : Int) (k : Nat) (hk : 400 ≤ k) (hx : ∀ y ∈ l, ok56 y) (hn : -9223372036854775808 ≤ n ∧ n ≤ 9223372036854775807) (hc : c ≤ 9223372036854775807) :
    (∃ (e p p' : Int), e ≠ 0 ∧ segment_bytesAt.f k l nx n o c = some (p, e) ∧ midrangeref04_reach.f k l nx n o c = some (p', e)) ∨
    (∃ (j q : Nat), j < l.length ∧ (rd_T56 l (j : Int)).f0 = n ∧ Right l nx ∧ (rd_T56 l (j : Int)).f1.size = q ∧ q ≤ 256 ∧ 0 ≤ o ∧ 0 ≤ c ∧ o + c ≤ (q : Int) ∧ segment_bytesAt.f k l nx n o c = some ((j : Int), 0) ∧ midrangeref04_reach.f k l nx n o c = some ((j : Int), 0)) := by
  unfold segment_bytesAt.f midrangeref04_reach.f
  rcases find_known l nx n k (by omega) hn with ⟨e, p, he, h1, h2⟩ | ⟨j, hj, hjn, R, h1, h2⟩
  · left
    rw [h1, h2, Option.bind_some, Option.bind_some, if_neg he, if_neg he]
    exact ⟨e, 0, p, he, rfl, rfl⟩
  · obtain ⟨q, hq, hq1, hq8⟩ := size_of R hx j hj
    have h0 : (0 : Int) ≤ (j : Int) := Int.natCast_nonneg j
    have hjl : (j : Int) < (l.length : Int) := Int.ofNat_lt.mpr hj
    rw [h1, h2, Option.bind_some, Option.bind_some, if_pos rfl, if_pos rfl, if_pos h0, if_pos h0, if_pos hjl, if_pos hjl, hq, within_eq, Within_eq, Option.bind_some, Option.bind_some, within_eq, Within_eq, Option.bind_some, Option.bind_some]
    simp only [decide_eq_true_eq]
    by_cases h3 : 0 ≤ o ∧ o ≤ ((q * 32 : Nat) : Int)
    · rw [w64 (x := ((q * 32 : Nat) : Int) - o) (by omega) (by omega), if_pos h3, if_pos h3]
      by_cases h4 : 0 ≤ c ∧ c ≤ ((q * 32 : Nat) : Int) - o
      · rw [if_pos h4, if_pos h4]
        exact .inr ⟨j, q * 32, hj, hjn, R, hq, by omega, h3.1, h4.1, by omega, rfl, rfl⟩
      · rw [if_neg h4, if_neg h4]
        exact .inl ⟨3, 0, _, by decide, rfl, rfl⟩
    · rw [if_neg h3, if_neg h3]
      exact .inl ⟨3, 0, _, by decide, rfl, rfl⟩
def patched (s : ByteArray) (o : Int) (t : ByteArray) : ByteArray := s.extract 0 o.toNat ++ t ++ s.extract (o + (t.size : Int)).toNat s.size
theorem written_both (l : List S56) (nx n o : Int) (t : ByteArray) (k : Nat) (hk : 400 ≤ k) (hx : ∀ y ∈ l, ok56 y) (h12 : l.length ≤ 12) (hn : -9223372036854775808 ≤ n ∧ n ≤ 9223372036854775807) (ht : t.size ≤ 9223372036854775807) :
    (∃ e : Int, e ≠ 0 ∧ segment_Written.f k l nx n o t = some ([], 0, e) ∧ midrangeref04_Written.f k l nx n o t = some ([], 0, 0, ⟨#[]⟩, e)) ∨
    (∃ j : Nat, j < l.length ∧ (rd_T56 l (j : Int)).f0 = n ∧ Right l nx ∧ 0 ≤ o ∧ o + (t.size : Int) ≤ ((rd_T56 l (j : Int)).f1.size : Int) ∧ (rd_T56 l (j : Int)).f1.size ≤ 256 ∧
      segment_Written.f k l nx n o t = some (l.set j ⟨(rd_T56 l (j : Int)).f0, patched (rd_T56 l (j : Int)).f1 o t⟩, nx, 0) ∧ midrangeref04_Written.f k l nx n o t = some (l.set j ⟨(rd_T56 l (j : Int)).f0, patched (rd_T56 l (j : Int)).f1 o t⟩, nx, 0, ⟨#[]⟩, 0)) := by
  unfold segment_Written.f midrangeref04_Written.f
  rcases reach_both l nx n o t.size k hk hx hn (by omega) with ⟨e, p, p', he, h1, h2⟩ | ⟨j, q, hj, hjn, R, hq, hq8, ho, hc0, hoc, h1, h2⟩
  · rw [h1, h2, Option.bind_some, Option.bind_some, if_neg he, if_neg he]
    exact .inl ⟨e, he, rfl, rfl⟩
  · right
    have h0 : (0 : Int) ≤ (j : Int) := Int.natCast_nonneg j
    have hjl : (j : Int) < (l.length : Int) := Int.ofNat_lt.mpr hj
    have hoc1 : o ≤ (q : Int) := by omega
    have hoc0 : 0 ≤ o + (t.size : Int) := by omega
    have h5 : o.toNat + t.size ≤ 9223372036854775807 := by omega
    have h6 : o.toNat + t.size + (q - (o + (t.size : Int)).toNat) ≤ 9223372036854775807 := by omega
    obtain ⟨w1, w2⟩ := with_eq l nx j (patched (rd_T56 l (j : Int)).f1 o t) h12 hj
    unfold patched at w1 w2
    unfold patched midrangebase_Patched.f
    rw [hq] at w1 w2
    refine ⟨j, hj, hjn, R, ho, by rw [hq]; exact hoc, by rw [hq]; exact hq8, ?_⟩
    rw [h1, h2, Option.bind_some, Option.bind_some, w64 (x := o + (t.size : Int)) (by omega) (by omega), if_pos rfl, if_pos rfl, if_pos h0, if_pos h0, if_pos hjl, if_pos hjl, hq, if_pos ho, if_pos ho, if_pos hoc1, if_pos hoc1, if_pos h5, if_pos h5, if_pos hoc0, if_pos hoc0, if_pos hoc, if_pos hoc, if_pos h6, if_pos h6, w1, Option.bind_some, Option.bind_some, w2]
    exact ⟨rfl, rfl⟩
end Go.Proofs.Ytoabahlaicgmjaa.Q
end
