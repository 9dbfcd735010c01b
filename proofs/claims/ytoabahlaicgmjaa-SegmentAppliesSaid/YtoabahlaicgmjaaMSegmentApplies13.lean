-- Texts of this claim joined by merge.py, a program of its author; what this claim does not reach is left out.
import Derived.Test.YtoabahlaicgmjaaMSegmentApplies12
section
namespace Go.Proofs.Ytoabahlaicgmjaa.X
open Go.Proofs.Ytoabahlaicgmjaa.XW Go.Proofs.Ytoabahlaicgmjaa.XS
open Go.RowKit Go.Proofs.YtoabahlaicgmjaaW.PrintWords Go.Proofs.YtoabahlaicgmjaaW.PrintLast Go.Proofs.YtoabahlaicgmjaaW.PrintMore
attribute [local go_sem] max2_int min2_int max_two min_two max_three min_three max_four min_four   -- for this text's walks alone
set_option linter.unusedVariables false
set_option linter.unusedSimpArgs false

/-! ### midrangeref04_Applied: function 34 -/
def midrangeref04_Applied.l0 : Nat → List (S66) → Int → List (S56) → Int → Option ((List (S56)) × Int × Int × ByteArray × Int)
  | 0, _, _, _, _ => none
  | k + 1, x1, x6, x650000, x650001 => if x6 < (x1.length : Int) then (if 0 ≤ x6 then ((midrangeref04_Done.f k x650000 x650001 ((rd_T66 x1 x6).f0) ((rd_T66 x1 x6).f1) ((rd_T66 x1 x6).f2) ((rd_T66 x1 x6).f3) ((rd_T66 x1 x6).f4)).bind fun bt660 => (if bt660.2.2.2.2 = 0 then (midrangeref04_Applied.l0 k x1 (wrap64 (x6 + 1)) bt660.1 bt660.2.1) else (some (([] : List (S56)), 0, x6, (⟨#[]⟩ : ByteArray), bt660.2.2.2.2)))) else (none)) else ((midrangeref04_Own.f x650000 x650001).bind fun bt668 => (some (bt668.1, bt668.2, (x1.length : Int), (⟨#[]⟩ : ByteArray), 0)))
def midrangeref04_Applied.f (k : Nat) (l0_0 : List (S56)) (a0_1 : Int) (l1 : List (S66)) : Option ((List (S56)) × Int × Int × ByteArray × Int) := (midrangeref04_Err.f k l0_0 a0_1).bind fun t651 => (if t651 = 0 then (if (l1.length : Int) > 40 then ((midrangeref04_failed.f 2).bind fun bt652 => (some (bt652.1, bt652.2.1, bt652.2.2.1, bt652.2.2.2.1, bt652.2.2.2.2))) else (midrangeref04_Applied.l0 k l1 0 l0_0 a0_1)) else (some (([] : List (S56)), 0, 0, (⟨#[]⟩ : ByteArray), t651)))
def midrangeref04_Applied.T9 : Bool × List (List Nat × List Nat) := (true, [([], []), ([], []), ([], []), ([1, 2], [1, 2]), ([3], [3]), ([0, 4], [0, 4]), ([], []), ([6, 5, 5, 0, 1, 2, 3, 4, 5, 6], [5, 6])])
def midrangeref04_Applied.B9 : List Nat := [0, 0, 0, 6, 14, 31, 0, 127]
theorem midrangeref04_Applied.tab9 : rtab .any (opsOf Try.f34 9) = midrangeref04_Applied.T9 := by kernel_rfl
theorem midrangeref04_Applied.bits9 : waitsOk midrangeref04_Applied.T9.2 midrangeref04_Applied.B9 = true := by kernel_rfl
set_option maxHeartbeats 8000000 in
set_option maxRecDepth 100000 in
theorem midrangeref04_Applied.calls (k : Nat) (P0_0_ : Nat → Prop) (A0_0 : Option Addr) (c0_0 : Nat) (l0_0 : List (S56)) (a0_1 : Int) (A1 : Option Addr) (c1 : Nat) (l1 : List (S66)) (r1 : List (S56)) (r2 : Int) (r3 : Int) (r4 : ByteArray) (r5 : Int) (w : World) (hs0_0 : Kd.V k56 56 w w.heap.size (fun k_ => P0_0_ k_) (.slice A0_0 l0_0.length c0_0) l0_0) (hr1 : Kd.C k66 w A1 l1.length l1) (hc1 : l1.length ≤ c1) (h : midrangeref04_Applied.f k l0_0 a0_1 l1 = some (r1, r2, r3, r4, r5)) :
    Calls Try.prog 34 #[.agg #[.slice A0_0 l0_0.length c0_0, .int .i64 a0_1], .slice A1 l1.length c1] w fun e w' => ∃ v0_ : Value, e = .returned (.agg #[v0_, .int .i64 r2, .int .i64 r3, .string r4, .int .i64 r5]) ∧ Kd.R k56 56 w' w.heap.size (fun k_ => (w.heap.size ≤ k_)) v0_ r1 ∧ Below w.heap.size w w' := by
  have hu24 := Try.underlying24
  have hu34 := Try.underlying34
  have hu66 := Try.underlying66
  have HO0_0 := Aside0.mk (show Kd.V k56 56 w w.heap.size (fun k_ => (P0_0_ k_ ∨ w.heap.size ≤ k_)) (.slice A0_0 l0_0.length c0_0) l0_0 from Kd.V_mono hs0_0 (fun k_ hk => .inl hk))
  have HR1 := Aside0.mk hr1
  have HC1 := Aside0.mk hc1
  clear hr1 hc1
  have HB := Aside0.mk (Below.refl w.heap.size w)
  have H : ((midrangeref04_Err.f k l0_0 a0_1).bind fun t651 => (if t651 = 0 then (if (l1.length : Int) > 40 then ((midrangeref04_failed.f 2).bind fun bt652 => (some (bt652.1, bt652.2.1, bt652.2.2.1, bt652.2.2.2.1, bt652.2.2.2.2))) else (midrangeref04_Applied.l0 k l1 0 l0_0 a0_1)) else (some (([] : List (S56)), 0, 0, (⟨#[]⟩ : ByteArray), t651)))) = some (r1, r2, r3, r4, r5) := h
  clear h
  replace H := Option.bind_eq_some_iff.mp H
  obtain ⟨t651, A30, H⟩ := H
  replace H : (if t651 = 0 then (if (l1.length : Int) > 40 then ((midrangeref04_failed.f 2).bind fun bt652 => (some (bt652.1, bt652.2.1, bt652.2.2.1, bt652.2.2.2.1, bt652.2.2.2.2))) else (midrangeref04_Applied.l0 k l1 0 l0_0 a0_1)) else (some (([] : List (S56)), 0, 0, (⟨#[]⟩ : ByteArray), t651))) = some (r1, r2, r3, r4, r5) := H
  have A3 := Aside0.mk A30
  clear A30
  by_cases c4 : t651 = 0
  · rw [if_pos c4] at H
    have c4b0 : (t651 == 0) = true := beq_iff_eq.mpr c4
    have c4b1 : (t651 != 0) = false := bne_eq_false_iff_eq.mpr c4
    clear c4
    by_cases c5 : (l1.length : Int) > 40
    · rw [if_pos c5] at H
      have c5b0 : decide (40 < (l1.length : Int)) = true := decide_eq_true c5
      have c5b1 : decide (40 < l1.length) = true := decide_eq_true (by omega)
      clear c5
      replace H := Option.bind_eq_some_iff.mp H
      obtain ⟨⟨t652, t655, t656, t657, t658⟩, A60, H⟩ := H
      replace H : (some (t652, t655, t656, t657, t658)) = some (r1, r2, r3, r4, r5) := H
      have A6 := Aside0.mk A60
      clear A60
      simp only [Option.some.injEq, Prod.mk.injEq] at H
      obtain ⟨rfl, rfl, rfl, rfl, rfl⟩ := H
      go_enter Try.func34, Try.ntmps34
      go_wp2_with (first | ((with_reducible refine gate_dst (N := 2) rfl ?_); refine box_event ?hg (N := 2) ?hd (cs := #[.slice A0_0 l0_0.length c0_0, .int .i64 a0_1]) (t := 24) ?hr ?_; (case hd => rfl); (case hg => rfl); (case hr => first | (go_simp; done) | (go_simp; rfl)); intro gb649 hg w7 hbox hb; replace HO0_0 := Aside0.mk (Kd.V_below (Kd.V_elderB (by (with_reducible repeat (first | apply Kd.V_alloc | apply Kd.V_drewN | apply Kd.V_drew)); exact HO0_0.out) gb649 (Nat.le_of_eq hg.symm)) hb); have BK649 := Aside0.mk (hbox); have GW649 := gw_ hg HB; have GE649 := gw_ hg HB; replace HB := sb_ HB hb; clear hb hbox hg) | ((with_reducible refine gate_dst (N := 4) rfl ?_); refine box_event ?hg (N := 4) ?hd (cs := #[.slice none 0 0, .int .i64 0, .int .i64 0, .string (⟨#[]⟩ : ByteArray), .int .i64 0]) (t := 34) ?hr ?_; (case hd => rfl); (case hg => rfl); (case hr => first | (go_simp; done) | (go_simp; rfl)); intro gb650 hg w8 hbox hb; replace HO0_0 := Aside0.mk (Kd.V_below (Kd.V_elderB (by (with_reducible repeat (first | apply Kd.V_alloc | apply Kd.V_drewN | apply Kd.V_drew)); exact HO0_0.out) gb650 (Nat.le_of_eq hg.symm)) hb); have BK650 := Aside0.mk (hbox); have GW650 := gw_ hg HB; have GE650 := gw_ hg HB; replace HB := sb_ HB hb; have NB649_650 := nl_ hg BK649; have NB650_649 := ng_ hg BK649; replace BK649 := kb_ BK649 hb; clear hb hbox hg; have hnb9 := NB649_650.out; have hnc9 := NB650_649.out; have hcz10_0 := cz_ BK649 0 (.slice A0_0 l0_0.length c0_0); have hcz10_1 := cz_ BK649 1 (.int .i64 a0_1); have hfz10_0 := blk_frozen BK649.out 0; have hfz10_1 := blk_frozen BK649.out 1) | ((with_reducible refine gate_callee (f := 35) rfl ?_); refine goesL_ (some 9) rfl rfl Try.func35 (by kernel_rfl) rfl #[.agg #[.slice A0_0 l0_0.length c0_0, .int .i64 a0_1]] rfl (by (try simp only [List.map_toArray, List.map_cons, List.map_nil]); first | done | rfl | (simp only [List.length_drop, List.length_take]; rfl)) ?_; (with_reducible refine (midrangeref04_Err.calls k _ _ l0_0 a0_1 t651 _ ?side1 ?side2 A3.out).mono ?_); (case side1 => exact pc_ (Kd.V_reads' HO0_0.out).2.2); (case side2 => exact (Kd.V_reads' HO0_0.out).2.1); rintro e w11 ⟨rfl, hb⟩; refine ⟨_, rfl, ?_⟩; replace HO0_0 := Aside0.mk (Kd.V_below (by (with_reducible repeat (first | apply Kd.V_alloc | apply Kd.V_drewN | apply Kd.V_drew)); exact HO0_0.out) hb); replace BK649 := kb_ BK649 hb; replace BK650 := kb_ BK650 hb; replace HB := sb_ HB hb; (try clear hb); (try clear hb2); (try clear hk); (try clear hi)) | ((with_reducible refine gate_callee (f := 42) rfl ?_); refine goesL_ (some 17) rfl rfl Try.func42 (by kernel_rfl) rfl #[.int .i64 2] rfl (by (try simp only [List.map_toArray, List.map_cons, List.map_nil]); first | done | rfl | (simp only [List.length_drop, List.length_take]; rfl)) ?_; (with_reducible refine (midrangeref04_failed.calls 2 t652 t655 t656 t657 t658 _ A6.out).mono ?_); rintro e w12 ⟨v653, rfl, ho0, hb⟩; refine ⟨_, rfl, ?_⟩; replace HO0_0 := Aside0.mk (Kd.V_elder' (by (with_reducible repeat (first | apply Kd.V_alloc | apply Kd.V_drewN | apply Kd.V_drew)); exact HO0_0.out) (Kd.R_base ho0) hb); have HO654 := Aside0.mk (Kd.R_lower (Kd.R_newM (M := fun k_ => (w.heap.size ≤ k_)) ho0 (below_size (pb_ HB)) (fun k_ h_ => h_)) (below_size (pb_ HB))); replace BK649 := kb_ BK649 hb; replace BK650 := kb_ BK650 hb; replace HB := sb_ HB hb; (try clear hb); (try clear hb2); (try clear hk); (try clear hi); (try clear ho0); obtain ⟨Ao13, co13, eo13⟩ := Kd.R_slice HO654.out; subst eo13; have hcz14_0 := cz_ BK650 0 (.slice none 0 0); have hcz14_1 := cz_ BK650 1 (.int .i64 0); have hcz14_2 := cz_ BK650 2 (.int .i64 0); have hcz14_3 := cz_ BK650 3 (.string (⟨#[]⟩ : ByteArray)); have hcz14_4 := cz_ BK650 4 (.int .i64 0); have hfz14_0 := blk_frozen BK650.out 0; have hfz14_1 := blk_frozen BK650.out 1; have hfz14_2 := blk_frozen BK650.out 2; have hfz14_3 := blk_frozen BK650.out 3; have hfz14_4 := blk_frozen BK650.out 4))
      refine bodyPost_ret (results_cell_row rfl _ _ gb650 34 #[.slice Ao13 t652.length co13, .int .i64 t655, .int .i64 t656, .string t657, .int .i64 t658] (0, 0) _ rfl (by (with_reducible repeat (first | refine blk_drewN ?_ _ | refine blk_drew ?_ | refine blk_alloc ?_ _)); refine blk_put (cs := #[.slice Ao13 t652.length co13, .int .i64 t655, .int .i64 t656, .string t657, .int .i64 0]) ?_ 4 _ rfl; (with_reducible repeat (first | refine blk_drewN ?_ _ | refine blk_drew ?_ | refine blk_alloc ?_ _)); refine blk_put (cs := #[.slice Ao13 t652.length co13, .int .i64 t655, .int .i64 t656, .string (⟨#[]⟩ : ByteArray), .int .i64 0]) ?_ 3 _ rfl; (with_reducible repeat (first | refine blk_drewN ?_ _ | refine blk_drew ?_ | refine blk_alloc ?_ _)); refine blk_put (cs := #[.slice Ao13 t652.length co13, .int .i64 t655, .int .i64 0, .string (⟨#[]⟩ : ByteArray), .int .i64 0]) ?_ 2 _ rfl; (with_reducible repeat (first | refine blk_drewN ?_ _ | refine blk_drew ?_ | refine blk_alloc ?_ _)); refine blk_put (cs := #[.slice Ao13 t652.length co13, .int .i64 0, .int .i64 0, .string (⟨#[]⟩ : ByteArray), .int .i64 0]) ?_ 1 _ rfl; (with_reducible repeat (first | refine blk_drewN ?_ _ | refine blk_drew ?_ | refine blk_alloc ?_ _)); refine blk_put (cs := #[.slice none 0 0, .int .i64 0, .int .i64 0, .string (⟨#[]⟩ : ByteArray), .int .i64 0]) ?_ 0 _ rfl; (with_reducible repeat (first | refine blk_drewN ?_ _ | refine blk_drew ?_ | refine blk_alloc ?_ _)); exact BK650.out) Try.underlying34 rfl (by kernel_rfl)) rfl ?_
      exact ⟨_, er_, by (with_reducible repeat (first | apply Kd.R_alloc | apply Kd.R_drewN | apply Kd.R_drew)); exact Kd.R_mono (Kd.R_far (p := ⟨gb650, 4, none⟩) (Kd.R_far (p := ⟨gb650, 3, none⟩) (Kd.R_far (p := ⟨gb650, 2, none⟩) (Kd.R_far (p := ⟨gb650, 1, none⟩) (Kd.R_far (p := ⟨gb650, 0, none⟩) (Kd.R_types HO654.out BK650.out (by decide)) (fun _ hk => hk.2) (.slice Ao13 t652.length co13)) (fun _ hk => hk.2) (.int .i64 t655)) (fun _ hk => hk.2) (.int .i64 t656)) (fun _ hk => hk.2) (.string t657)) (fun _ hk => hk.2) (.int .i64 t658)) (fun _ hk => hk.1.1), pb_ HB⟩
    · rw [if_neg c5] at H
      have c5b0 : decide (40 < (l1.length : Int)) = false := decide_eq_false c5
      have c5b1 : decide (40 < l1.length) = false := decide_eq_false (by omega)
      clear c5
      have H' := Aside0.mk H
      clear H
      go_enter Try.func34, Try.ntmps34
      go_wp2_with (first | ((with_reducible refine gate_dst (N := 2) rfl ?_); refine box_event ?hg (N := 2) ?hd (cs := #[.slice A0_0 l0_0.length c0_0, .int .i64 a0_1]) (t := 24) ?hr ?_; (case hd => rfl); (case hg => rfl); (case hr => first | (go_simp; done) | (go_simp; rfl)); intro gb649 hg w15 hbox hb; replace HO0_0 := Aside0.mk (Kd.V_below (Kd.V_elderB (by (with_reducible repeat (first | apply Kd.V_alloc | apply Kd.V_drewN | apply Kd.V_drew)); exact HO0_0.out) gb649 (Nat.le_of_eq hg.symm)) hb); have BK649 := Aside0.mk (hbox); have GW649 := gw_ hg HB; have GE649 := gw_ hg HB; replace HB := sb_ HB hb; clear hb hbox hg) | ((with_reducible refine gate_dst (N := 4) rfl ?_); refine box_event ?hg (N := 4) ?hd (cs := #[.slice none 0 0, .int .i64 0, .int .i64 0, .string (⟨#[]⟩ : ByteArray), .int .i64 0]) (t := 34) ?hr ?_; (case hd => rfl); (case hg => rfl); (case hr => first | (go_simp; done) | (go_simp; rfl)); intro gb650 hg w16 hbox hb; replace HO0_0 := Aside0.mk (Kd.V_below (Kd.V_elderB (by (with_reducible repeat (first | apply Kd.V_alloc | apply Kd.V_drewN | apply Kd.V_drew)); exact HO0_0.out) gb650 (Nat.le_of_eq hg.symm)) hb); have BK650 := Aside0.mk (hbox); have GW650 := gw_ hg HB; have GE650 := gw_ hg HB; replace HB := sb_ HB hb; have NB649_650 := nl_ hg BK649; have NB650_649 := ng_ hg BK649; replace BK649 := kb_ BK649 hb; clear hb hbox hg; have hnb17 := NB649_650.out; have hnc17 := NB650_649.out; have hcz18_0 := cz_ BK649 0 (.slice A0_0 l0_0.length c0_0); have hcz18_1 := cz_ BK649 1 (.int .i64 a0_1); have hfz18_0 := blk_frozen BK649.out 0; have hfz18_1 := blk_frozen BK649.out 1) | ((with_reducible refine gate_callee (f := 35) rfl ?_); refine goesL_ (some 9) rfl rfl Try.func35 (by kernel_rfl) rfl #[.agg #[.slice A0_0 l0_0.length c0_0, .int .i64 a0_1]] rfl (by (try simp only [List.map_toArray, List.map_cons, List.map_nil]); first | done | rfl | (simp only [List.length_drop, List.length_take]; rfl)) ?_; (with_reducible refine (midrangeref04_Err.calls k _ _ l0_0 a0_1 t651 _ ?side1 ?side2 A3.out).mono ?_); (case side1 => exact pc_ (Kd.V_reads' HO0_0.out).2.2); (case side2 => exact (Kd.V_reads' HO0_0.out).2.1); rintro e w19 ⟨rfl, hb⟩; refine ⟨_, rfl, ?_⟩; replace HO0_0 := Aside0.mk (Kd.V_below (by (with_reducible repeat (first | apply Kd.V_alloc | apply Kd.V_drewN | apply Kd.V_drew)); exact HO0_0.out) hb); replace BK649 := kb_ BK649 hb; replace BK650 := kb_ BK650 hb; replace HB := sb_ HB hb; (try clear hb); (try clear hb2); (try clear hk); (try clear hi)))
      go_loopg [6] k (fun kq v6 w' => ∃ (x6_1 : Int) (x650000_1 : List (S56)) (x650001_1 : Int) (x651001_1 : Int) (x651002_1 : Int) (x651003_1 : ByteArray) (x651004_1 : Int) (u650000 : Value), v6 = .int .i64 x6_1 ∧ Aside0 (midrangeref04_Applied.l0 kq l1 x6_1 x650000_1 x650001_1 = some (r1, r2, r3, r4, r5)) ∧ Aside0 (kq ≤ k) ∧ Aside0 (Kd.V k56 56 w' w.heap.size (fun k_ => (P0_0_ k_ ∨ w.heap.size ≤ k_) ∧ k_ ≠ gb649 ∧ k_ ≠ gb650) u650000 x650000_1) ∧ Aside0 (w'.heap[gb649]? = some (.cells #[u650000, .int .i64 x650001_1] 24 (0, 0))) ∧ Aside0 (w'.heap[gb650]? = some (.cells #[(.slice none 0 0), .int .i64 x651001_1, .int .i64 x651002_1, .string x651003_1, .int .i64 x651004_1] 34 (0, 0))) ∧ Aside0 (Below w.heap.size w w'))
      case atStart => exact ⟨(0), (l0_0), (a0_1), (0), (0), ((⟨#[]⟩ : ByteArray)), (0), (.slice A0_0 l0_0.length c0_0), (by first | rfl | (simp; done) | (simp [*]; done)), H', ⟨Nat.le_refl _⟩, ⟨by (with_reducible repeat (first | apply Kd.V_alloc | apply Kd.V_drewN | apply Kd.V_drew)); exact Kd.V_mono HO0_0.out (fun _ hk => ⟨hk.1.1, ⟨hk.1.2, hk.2⟩⟩)⟩, ⟨pk_ BK649⟩, ⟨pk_ BK650⟩, ⟨pb_ HB⟩⟩
      case round =>
        clear H'
        try clear c1
        try clear p2
        try clear c3
        try clear c4
        try clear c4b0
        try clear c4b1
        try clear c5
        try clear c5b0
        try clear c5b1
        try clear c9
        try clear c17
        try clear hcz10_0
        try clear hcz10_1
        try clear hcz14_0
        try clear hcz14_1
        try clear hcz14_2
        try clear hcz14_3
        try clear hcz14_4
        try clear hcz18_0
        try clear hcz18_1
        try clear hfz10_0
        try clear hfz10_1
        try clear hfz14_0
        try clear hfz14_1
        try clear hfz14_2
        try clear hfz14_3
        try clear hfz14_4
        try clear hfz18_0
        try clear hfz18_1
        obtain ⟨x6_1, x650000_1, x650001_1, x651001_1, x651002_1, x651003_1, x651004_1, u650000, rfl, HA, HK1, HO_650000, BK649, BK650, HB⟩ := hrel
        cases gk with
        | zero => exact absurd HA.out (by simp [midrangeref04_Applied.l0])
        | succ k1 =>
          have H := HA.out
          clear HA
          simp only [midrangeref04_Applied.l0] at H
          by_cases c20 : x6_1 < (l1.length : Int)
          · rw [if_pos c20] at H
            have c20b0 : decide (x6_1 < (l1.length : Int)) = true := decide_eq_true c20
            clear c20
            by_cases c21 : 0 ≤ x6_1
            · rw [if_pos c21] at H
              have c21b0 : decide (0 ≤ x6_1) = true := decide_eq_true c21
              clear c21
              replace H := Option.bind_eq_some_iff.mp H
              obtain ⟨⟨t660, t663, t664, t665, t666⟩, A220, H⟩ := H
              replace H : (if t666 = 0 then (midrangeref04_Applied.l0 k1 l1 (wrap64 (x6_1 + 1)) t660 t663) else (some (([] : List (S56)), 0, x6_1, (⟨#[]⟩ : ByteArray), t666))) = some (r1, r2, r3, r4, r5) := H
              have A22 := Aside0.mk A220
              clear A220
              by_cases c23 : t666 = 0
              · rw [if_pos c23] at H
                have c23b0 : (t666 == 0) = true := beq_iff_eq.mpr c23
                have c23b1 : (t666 != 0) = false := bne_eq_false_iff_eq.mpr c23
                clear c23
                have H' := Aside0.mk H
                clear H
                obtain ⟨Ao24, co24, eo24⟩ := Kd.V_slice HO_650000.out
                subst eo24
                try go_wp2
                replace HO_650000 := Aside0.mk (Kd.V_drew HO_650000.out)
                replace BK649 := Aside0.mk (blk_drew BK649.out)
                replace BK650 := Aside0.mk (blk_drew BK650.out)
                replace HB := Aside0.mk (below_drew1 HB.out)
                have p659 : 0 ≤ (x6_1 : Int) := ct_
                have q659 : x6_1 < (l1.length : Int) := ct_
                obtain ⟨ad659, e659, hx659_0, hx659_1, hx659_2, hx659_3, hx659_4⟩ := at_T66 HR1.out x6_1 p659 q659
                have hw659_4 := hx659_4
                have hw659_3 := hx659_3
                have hw659_2 := hx659_2
                have hw659_1 := hx659_1
                have hw659_0 := hx659_0
                cases e659
                replace hx659_0 := (HB.out.cell (World.block_lt_of_cell? w _ hx659_0)).trans hx659_0
                replace hx659_1 := (HB.out.cell (World.block_lt_of_cell? w _ hx659_1)).trans hx659_1
                replace hx659_2 := (HB.out.cell (World.block_lt_of_cell? w _ hx659_2)).trans hx659_2
                replace hx659_3 := (HB.out.cell (World.block_lt_of_cell? w _ hx659_3)).trans hx659_3
                replace hx659_4 := (HB.out.cell (World.block_lt_of_cell? w _ hx659_4)).trans hx659_4
                replace p659 := eq_true p659
                replace q659 := eq_true q659
                refine start_ (n := 8) (S := fun w' => w'.cell? ⟨gb649, 0, none⟩ = some (.slice Ao24 x650000_1.length co24) ∧ w'.cell? ⟨gb649, 1, none⟩ = some (.int .i64 x650001_1) ∧ w'.cell? (ad659.add ((x6_1).toNat * 5)) = some (.int .i64 ((rd_T66 l1 x6_1).f0)) ∧ w'.cell? ⟨(ad659.add ((x6_1).toNat * 5)).block, (ad659.add ((x6_1).toNat * 5)).off + 1, none⟩ = some (.int .i64 ((rd_T66 l1 x6_1).f1)) ∧ w'.cell? ⟨(ad659.add ((x6_1).toNat * 5)).block, (ad659.add ((x6_1).toNat * 5)).off + 2, none⟩ = some (.int .i64 ((rd_T66 l1 x6_1).f2)) ∧ w'.cell? ⟨(ad659.add ((x6_1).toNat * 5)).block, (ad659.add ((x6_1).toNat * 5)).off + 3, none⟩ = some (.int .i64 ((rd_T66 l1 x6_1).f3)) ∧ w'.cell? ⟨(ad659.add ((x6_1).toNat * 5)).block, (ad659.add ((x6_1).toNat * 5)).off + 4, none⟩ = some (.string ((rd_T66 l1 x6_1).f4))) (ds := []) #[false, false, false, false, false, false, false, false] (by kernel_rfl) rfl rfl ⟨(blk_cell BK649.out 0).trans rfl, (blk_cell BK649.out 1).trans rfl, ((HB.out.cell (World.block_lt_of_cell? w _ hw659_0)).trans hw659_0), ((HB.out.cell (World.block_lt_of_cell? w _ hw659_1)).trans hw659_1), ((HB.out.cell (World.block_lt_of_cell? w _ hw659_2)).trans hw659_2), ((HB.out.cell (World.block_lt_of_cell? w _ hw659_3)).trans hw659_3), ((HB.out.cell (World.block_lt_of_cell? w _ hw659_4)).trans hw659_4)⟩ (fun hHeld => ?_); refine with_tabW midrangeref04_Applied.tab9 midrangeref04_Applied.bits9 (fun HT_ HW_ => ?_)
                generalize wr.drew = w25 at HO_650000 BK649 BK650 HB hx659_0 hx659_1 hx659_2 hx659_3 hx659_4 hHeld ⊢
                refine pu_ 1 25 HT_ ?_
                refine pu_ 2 26 HT_ ?_
                refine pu_ 3 27 HT_ ?_
                refine take_ (i := 0) (N := some 24) (v := ?_) (a' := ?_) #[true, true, true, true, false, false, false, false] rfl rfl (take_ofW HT_.out HW_.out (by kernel_rfl)) (fun _ _ _ h => h) (Or.inl ⟨by rfl, ?_⟩) hHeld ?_ ?_
                rotate_left
                · rintro w' ⟨s0, s1, s2, s3, s4, s5, s6⟩
                  go_simp
                  with_reducible rfl
                rotate_left
                · simp only [Act.put, List.setIfInBounds_toArray, List.set_cons_zero, List.set_cons_succ, i64_w, i32_w]
                  rfl
                refine take_ (i := 4) (N := some 28) (v := ?_) (a' := ?_) #[true, true, true, true, true, false, false, false] rfl rfl (take_ofW HT_.out HW_.out (by kernel_rfl)) (fun _ _ _ h => h) (Or.inl ⟨by rfl, ?_⟩) hHeld ?_ ?_
                rotate_left
                · rintro w' ⟨s0, s1, s2, s3, s4, s5, s6⟩
                  go_simp
                  with_reducible rfl
                rotate_left
                · simp only [Act.put, List.setIfInBounds_toArray, List.set_cons_zero, List.set_cons_succ, i64_w, i32_w]
                  rfl
                refine join_ (σ := Value × Nat) 1 #[true, true, true, true, true, true, true, false] (fun s_ => [(29, .agg #[s_.1, .int .i64 t663, .int .i64 t664, .string t665, .int .i64 t666]), (7, .pointer (some ⟨s_.2, 0, none⟩))]) (fun s_ w' => (w'.cell? ⟨gb649, 0, none⟩ = some (.slice Ao24 x650000_1.length co24) ∧ w'.cell? ⟨gb649, 1, none⟩ = some (.int .i64 x650001_1) ∧ w'.cell? (ad659.add ((x6_1).toNat * 5)) = some (.int .i64 ((rd_T66 l1 x6_1).f0)) ∧ w'.cell? ⟨(ad659.add ((x6_1).toNat * 5)).block, (ad659.add ((x6_1).toNat * 5)).off + 1, none⟩ = some (.int .i64 ((rd_T66 l1 x6_1).f1)) ∧ w'.cell? ⟨(ad659.add ((x6_1).toNat * 5)).block, (ad659.add ((x6_1).toNat * 5)).off + 2, none⟩ = some (.int .i64 ((rd_T66 l1 x6_1).f2)) ∧ w'.cell? ⟨(ad659.add ((x6_1).toNat * 5)).block, (ad659.add ((x6_1).toNat * 5)).off + 3, none⟩ = some (.int .i64 ((rd_T66 l1 x6_1).f3)) ∧ w'.cell? ⟨(ad659.add ((x6_1).toNat * 5)).block, (ad659.add ((x6_1).toNat * 5)).off + 4, none⟩ = some (.string ((rd_T66 l1 x6_1).f4))) ∧ (Kd.R k56 56 w' w.heap.size (fun k_ => (w.heap.size ≤ k_)) s_.1 t660) ∧ (Kd.V k56 56 w' w.heap.size (fun k_ => (P0_0_ k_ ∨ w.heap.size ≤ k_) ∧ some k_ ≠ (s_.1 : Value).ownBlock ∧ k_ ≠ gb649 ∧ k_ ≠ gb650 ∧ k_ ≠ s_.2) (.slice Ao24 x650000_1.length co24) x650000_1) ∧ (w'.heap[gb649]? = some (.cells #[.slice Ao24 x650000_1.length co24, .int .i64 x650001_1] 24 (0, 0))) ∧ (w'.heap[gb650]? = some (.cells #[.slice none 0 0, .int .i64 x651001_1, .int .i64 x651002_1, .string x651003_1, .int .i64 x651004_1] 34 (0, 0))) ∧ (w'.heap[s_.2]? = some (.cells #[.slice none 0 0, .int .i64 0, .int .i64 0, .string (⟨#[]⟩ : ByteArray), .int .i64 0] 34 (0, 0))) ∧ (w.heap.size ≤ s_.2) ∧ (w.heap.size ≤ s_.2) ∧ (gb649 ≠ s_.2) ∧ (s_.2 ≠ gb649) ∧ (gb650 ≠ s_.2) ∧ (s_.2 ≠ gb650) ∧ (Below w.heap.size w w')) ?_ ?_
                rotate_left
                · intro hCont
                  refine two_ (i := 5) (j := 6) (Ni := some 29) (Nj := some 7) #[true, true, true, true, true, true, false, false] #[true, true, true, true, true, false, true, false] rfl rfl rfl rfl (two_of HT_.out (by kernel_rfl)) (by decide) (by decide) (fun K hK => ?_) (fun K hK => ?_)
                  · skip
                    refine goes_ Try.func53 (by kernel_rfl) rfl #[.agg #[.slice Ao24 x650000_1.length co24, .int .i64 x650001_1], .agg #[.int .i64 ((rd_T66 l1 x6_1).f0), .int .i64 ((rd_T66 l1 x6_1).f1), .int .i64 ((rd_T66 l1 x6_1).f2), .int .i64 ((rd_T66 l1 x6_1).f3), .string ((rd_T66 l1 x6_1).f4)]] (by rfl) rfl rfl (by (try simp only [List.map_toArray, List.map_cons, List.map_nil]); first | done | rfl | (simp only [List.length_drop, List.length_take]; rfl)) ?_
                    with_reducible refine (midrangeref04_Done.calls k1 _ _ x650000_1 x650001_1 ((rd_T66 l1 x6_1).f0) ((rd_T66 l1 x6_1).f1) ((rd_T66 l1 x6_1).f2) ((rd_T66 l1 x6_1).f3) ((rd_T66 l1 x6_1).f4) t660 t663 t664 t665 t666 _ ?side1 ?side2 A22.out).mono ?_
                    (case side1 => exact pc_ (Kd.V_reads' HO_650000.out).2.2)
                    (case side2 => exact (Kd.V_reads' HO_650000.out).2.1)
                    rintro e w26 ⟨v661, rfl, ho0, hb⟩
                    refine ⟨_, rfl, ?_⟩
                    replace HO_650000 := Aside0.mk (Kd.V_elder' (by (with_reducible repeat (first | apply Kd.V_alloc | apply Kd.V_drewN | apply Kd.V_drew)); exact HO_650000.out) (Kd.R_base ho0) hb)
                    have HO662 := Aside0.mk (Kd.R_lower (Kd.R_newM (M := fun k_ => (w.heap.size ≤ k_)) ho0 (below_size (pb_ HB)) (fun k_ h_ => h_)) (below_size (pb_ HB)))
                    replace BK649 := kb_ BK649 hb
                    replace BK650 := kb_ BK650 hb
                    replace HB := sb_ HB hb
                    (try clear hb)
                    (try clear hb2)
                    (try clear hk)
                    (try clear hi)
                    (try clear ho0)
                    refine hK.out _ _ ⟨(blk_cell BK649.out 0).trans rfl, (blk_cell BK649.out 1).trans rfl, ((HB.out.cell (World.block_lt_of_cell? w _ hw659_0)).trans hw659_0), ((HB.out.cell (World.block_lt_of_cell? w _ hw659_1)).trans hw659_1), ((HB.out.cell (World.block_lt_of_cell? w _ hw659_2)).trans hw659_2), ((HB.out.cell (World.block_lt_of_cell? w _ hw659_3)).trans hw659_3), ((HB.out.cell (World.block_lt_of_cell? w _ hw659_4)).trans hw659_4)⟩ (fun hHeld => ?_)
                    clear hK K
                    refine norm_ (a' := ?_) ?_ ?_
                    rotate_left
                    · show Act.put _ (some 29) _ = _
                      simp only [Act.put, List.setIfInBounds_toArray, List.set_cons_zero, List.set_cons_succ, i64_w, i32_w]
                      rfl
                    refine one_ (i := 6) (N := some 7) #[true, true, true, true, true, true, true, false] rfl rfl (one_of HT_.out (by kernel_rfl)) (by decide) (fun K hK => ?_)
                    refine box_step ?hg (N := 7) ?hd (cs := #[.slice none 0 0, .int .i64 0, .int .i64 0, .string (⟨#[]⟩ : ByteArray), .int .i64 0]) (t := 34) ?hr ?_; (case hd => rfl); (case hg => rfl); (case hr => first | (go_simp; done) | (go_simp; rfl))
                    intro gb667 hg w27 hbox hb
                    replace HO_650000 := Aside0.mk (Kd.V_below (Kd.V_elderB (by (with_reducible repeat (first | apply Kd.V_alloc | apply Kd.V_drewN | apply Kd.V_drew)); exact HO_650000.out) gb667 (Nat.le_of_eq hg.symm)) hb)
                    replace HO662 := Aside0.mk (Kd.R_below (by (with_reducible repeat (first | apply Kd.R_alloc | apply Kd.R_drewN | apply Kd.R_drew)); exact HO662.out) hb)
                    have BK667 := Aside0.mk (hbox)
                    have GW667 := gw_ hg HB
                    have GE667 := gw_ hg HB
                    replace HB := sb_ HB hb
                    have NB649_667 := nl_ hg BK649
                    have NB667_649 := ng_ hg BK649
                    replace BK649 := kb_ BK649 hb
                    have NB650_667 := nl_ hg BK650
                    have NB667_650 := ng_ hg BK650
                    replace BK650 := kb_ BK650 hb
                    clear hb hbox hg
                    refine hK.out _ _ ⟨(blk_cell BK649.out 0).trans rfl, (blk_cell BK649.out 1).trans rfl, ((HB.out.cell (World.block_lt_of_cell? w _ hw659_0)).trans hw659_0), ((HB.out.cell (World.block_lt_of_cell? w _ hw659_1)).trans hw659_1), ((HB.out.cell (World.block_lt_of_cell? w _ hw659_2)).trans hw659_2), ((HB.out.cell (World.block_lt_of_cell? w _ hw659_3)).trans hw659_3), ((HB.out.cell (World.block_lt_of_cell? w _ hw659_4)).trans hw659_4)⟩ (fun hHeld => ?_)
                    clear hK K
                    refine norm_ (a' := ?_) ?_ ?_
                    rotate_left
                    · show Act.put _ (some 7) _ = _
                      simp only [Act.put, List.setIfInBounds_toArray, List.set_cons_zero, List.set_cons_succ, i64_w, i32_w]
                      rfl
                    exact norm_ (by simp only [putAll, Act.put, List.setIfInBounds_toArray, List.set_cons_zero, List.set_cons_succ]) (hCont (v661, gb667) _ ⟨hHeld, (by (with_reducible repeat (first | apply Kd.R_alloc | apply Kd.R_drewN | apply Kd.R_drew)); exact Kd.R_mono HO662.out (fun _ hk => hk.1)), (by (with_reducible repeat (first | apply Kd.V_alloc | apply Kd.V_drewN | apply Kd.V_drew)); exact Kd.V_mono HO_650000.out (fun _ hk => ⟨hk.1.1.1, ⟨hk.1.2, ⟨hk.1.1.2.1, ⟨hk.1.1.2.2, hk.2⟩⟩⟩⟩)), (pk_ BK649), (pk_ BK650), (pk_ BK667), GW667.out, GE667.out, NB649_667.out, NB667_649.out, NB650_667.out, NB667_650.out, (pb_ HB)⟩)
                  · skip
                    refine box_step ?hg (N := 7) ?hd (cs := #[.slice none 0 0, .int .i64 0, .int .i64 0, .string (⟨#[]⟩ : ByteArray), .int .i64 0]) (t := 34) ?hr ?_; (case hd => rfl); (case hg => rfl); (case hr => first | (go_simp; done) | (go_simp; rfl))
                    intro gb667 hg w26 hbox hb
                    replace HO_650000 := Aside0.mk (Kd.V_below (Kd.V_elderB (by (with_reducible repeat (first | apply Kd.V_alloc | apply Kd.V_drewN | apply Kd.V_drew)); exact HO_650000.out) gb667 (Nat.le_of_eq hg.symm)) hb)
                    have BK667 := Aside0.mk (hbox)
                    have GW667 := gw_ hg HB
                    have GE667 := gw_ hg HB
                    replace HB := sb_ HB hb
                    have NB649_667 := nl_ hg BK649
                    have NB667_649 := ng_ hg BK649
                    replace BK649 := kb_ BK649 hb
                    have NB650_667 := nl_ hg BK650
                    have NB667_650 := ng_ hg BK650
                    replace BK650 := kb_ BK650 hb
                    clear hb hbox hg
                    refine hK.out _ _ ⟨(blk_cell BK649.out 0).trans rfl, (blk_cell BK649.out 1).trans rfl, ((HB.out.cell (World.block_lt_of_cell? w _ hw659_0)).trans hw659_0), ((HB.out.cell (World.block_lt_of_cell? w _ hw659_1)).trans hw659_1), ((HB.out.cell (World.block_lt_of_cell? w _ hw659_2)).trans hw659_2), ((HB.out.cell (World.block_lt_of_cell? w _ hw659_3)).trans hw659_3), ((HB.out.cell (World.block_lt_of_cell? w _ hw659_4)).trans hw659_4)⟩ (fun hHeld => ?_)
                    clear hK K
                    refine norm_ (a' := ?_) ?_ ?_
                    rotate_left
                    · show Act.put _ (some 7) _ = _
                      simp only [Act.put, List.setIfInBounds_toArray, List.set_cons_zero, List.set_cons_succ, i64_w, i32_w]
                      rfl
                    refine one_ (i := 5) (N := some 29) #[true, true, true, true, true, true, true, false] rfl rfl (one_of HT_.out (by kernel_rfl)) (by decide) (fun K hK => ?_)
                    refine goes_ Try.func53 (by kernel_rfl) rfl #[.agg #[.slice Ao24 x650000_1.length co24, .int .i64 x650001_1], .agg #[.int .i64 ((rd_T66 l1 x6_1).f0), .int .i64 ((rd_T66 l1 x6_1).f1), .int .i64 ((rd_T66 l1 x6_1).f2), .int .i64 ((rd_T66 l1 x6_1).f3), .string ((rd_T66 l1 x6_1).f4)]] (by rfl) rfl rfl (by (try simp only [List.map_toArray, List.map_cons, List.map_nil]); first | done | rfl | (simp only [List.length_drop, List.length_take]; rfl)) ?_
                    with_reducible refine (midrangeref04_Done.calls k1 _ _ x650000_1 x650001_1 ((rd_T66 l1 x6_1).f0) ((rd_T66 l1 x6_1).f1) ((rd_T66 l1 x6_1).f2) ((rd_T66 l1 x6_1).f3) ((rd_T66 l1 x6_1).f4) t660 t663 t664 t665 t666 _ ?side1 ?side2 A22.out).mono ?_
                    (case side1 => exact pc_ (Kd.V_reads' HO_650000.out).2.2)
                    (case side2 => exact (Kd.V_reads' HO_650000.out).2.1)
                    rintro e w27 ⟨v661, rfl, ho0, hb⟩
                    refine ⟨_, rfl, ?_⟩
                    replace HO_650000 := Aside0.mk (Kd.V_elder' (by (with_reducible repeat (first | apply Kd.V_alloc | apply Kd.V_drewN | apply Kd.V_drew)); exact HO_650000.out) (Kd.R_base ho0) hb)
                    have HO662 := Aside0.mk (Kd.R_lower (Kd.R_newM (M := fun k_ => (w.heap.size ≤ k_)) ho0 (below_size (pb_ HB)) (fun k_ h_ => h_)) (below_size (pb_ HB)))
                    replace BK649 := kb_ BK649 hb
                    replace BK650 := kb_ BK650 hb
                    replace BK667 := kb_ BK667 hb
                    replace HB := sb_ HB hb
                    (try clear hb)
                    (try clear hb2)
                    (try clear hk)
                    (try clear hi)
                    (try clear ho0)
                    refine hK.out _ _ ⟨(blk_cell BK649.out 0).trans rfl, (blk_cell BK649.out 1).trans rfl, ((HB.out.cell (World.block_lt_of_cell? w _ hw659_0)).trans hw659_0), ((HB.out.cell (World.block_lt_of_cell? w _ hw659_1)).trans hw659_1), ((HB.out.cell (World.block_lt_of_cell? w _ hw659_2)).trans hw659_2), ((HB.out.cell (World.block_lt_of_cell? w _ hw659_3)).trans hw659_3), ((HB.out.cell (World.block_lt_of_cell? w _ hw659_4)).trans hw659_4)⟩ (fun hHeld => ?_)
                    clear hK K
                    refine norm_ (a' := ?_) ?_ ?_
                    rotate_left
                    · show Act.put _ (some 29) _ = _
                      simp only [Act.put, List.setIfInBounds_toArray, List.set_cons_zero, List.set_cons_succ, i64_w, i32_w]
                      rfl
                    exact norm_ (by simp only [putAll, Act.put, List.setIfInBounds_toArray, List.set_cons_zero, List.set_cons_succ]) (hCont (v661, gb667) _ ⟨hHeld, (by (with_reducible repeat (first | apply Kd.R_alloc | apply Kd.R_drewN | apply Kd.R_drew)); exact Kd.R_mono HO662.out (fun _ hk => hk.1)), (by (with_reducible repeat (first | apply Kd.V_alloc | apply Kd.V_drewN | apply Kd.V_drew)); exact Kd.V_mono HO_650000.out (fun _ hk => ⟨hk.1.1.1, ⟨hk.2, ⟨hk.1.1.2.1, ⟨hk.1.1.2.2, hk.1.2⟩⟩⟩⟩)), (pk_ BK649), (pk_ BK650), (pk_ BK667), GW667.out, GE667.out, NB649_667.out, NB667_649.out, NB650_667.out, NB667_650.out, (pb_ HB)⟩)
                rintro ⟨v661, gb667⟩ w28 ⟨hS_, h0_, h1_, h2_, h3_, h4_, h5_, h6_, h7_, h8_, h9_, h10_, h11_⟩
                have n0_ : Aside0 (Kd.R k56 56 w28 w.heap.size (fun k_ => (w.heap.size ≤ k_)) v661 t660) := ⟨h0_⟩
                have n1_ : Aside0 (Kd.V k56 56 w28 w.heap.size (fun k_ => (P0_0_ k_ ∨ w.heap.size ≤ k_) ∧ some k_ ≠ (v661 : Value).ownBlock ∧ k_ ≠ gb649 ∧ k_ ≠ gb650 ∧ k_ ≠ gb667) (.slice Ao24 x650000_1.length co24) x650000_1) := ⟨h1_⟩
                have n2_ : Aside0 (w28.heap[gb649]? = some (.cells #[.slice Ao24 x650000_1.length co24, .int .i64 x650001_1] 24 (0, 0))) := ⟨h2_⟩
                have n3_ : Aside0 (w28.heap[gb650]? = some (.cells #[.slice none 0 0, .int .i64 x651001_1, .int .i64 x651002_1, .string x651003_1, .int .i64 x651004_1] 34 (0, 0))) := ⟨h3_⟩
                have n4_ : Aside0 (w28.heap[gb667]? = some (.cells #[.slice none 0 0, .int .i64 0, .int .i64 0, .string (⟨#[]⟩ : ByteArray), .int .i64 0] 34 (0, 0))) := ⟨h4_⟩
                have n5_ : Aside0 (w.heap.size ≤ gb667) := ⟨h5_⟩
                have n6_ : Aside0 (w.heap.size ≤ gb667) := ⟨h6_⟩
                have n7_ : Aside0 (gb649 ≠ gb667) := ⟨h7_⟩
                have n8_ : Aside0 (gb667 ≠ gb649) := ⟨h8_⟩
                have n9_ : Aside0 (gb650 ≠ gb667) := ⟨h9_⟩
                have n10_ : Aside0 (gb667 ≠ gb650) := ⟨h10_⟩
                have n11_ : Aside0 (Below w.heap.size w w28) := ⟨h11_⟩
                clear HO_650000
                clear BK649
                clear BK650
                clear HB
                clear h0_ h1_ h2_ h3_ h4_ h5_ h6_ h7_ h8_ h9_ h10_ h11_
                have HO662 := n0_
                have HO_650000 := n1_
                have BK649 := n2_
                have BK650 := n3_
                have BK667 := n4_
                have GW667 := n5_
                have GE667 := n6_
                have NB649_667 := n7_
                have NB667_649 := n8_
                have NB650_667 := n9_
                have NB667_650 := n10_
                have HB := n11_
                clear n0_ n1_ n2_ n3_ n4_ n5_ n6_ n7_ n8_ n9_ n10_ n11_
                have hHeld : w28.cell? ⟨gb649, 0, none⟩ = some (.slice Ao24 x650000_1.length co24) ∧ w28.cell? ⟨gb649, 1, none⟩ = some (.int .i64 x650001_1) ∧ w28.cell? (ad659.add ((x6_1).toNat * 5)) = some (.int .i64 ((rd_T66 l1 x6_1).f0)) ∧ w28.cell? ⟨(ad659.add ((x6_1).toNat * 5)).block, (ad659.add ((x6_1).toNat * 5)).off + 1, none⟩ = some (.int .i64 ((rd_T66 l1 x6_1).f1)) ∧ w28.cell? ⟨(ad659.add ((x6_1).toNat * 5)).block, (ad659.add ((x6_1).toNat * 5)).off + 2, none⟩ = some (.int .i64 ((rd_T66 l1 x6_1).f2)) ∧ w28.cell? ⟨(ad659.add ((x6_1).toNat * 5)).block, (ad659.add ((x6_1).toNat * 5)).off + 3, none⟩ = some (.int .i64 ((rd_T66 l1 x6_1).f3)) ∧ w28.cell? ⟨(ad659.add ((x6_1).toNat * 5)).block, (ad659.add ((x6_1).toNat * 5)).off + 4, none⟩ = some (.string ((rd_T66 l1 x6_1).f4)) := hS_
                obtain ⟨Ao29, co29, eo29⟩ := Kd.R_slice HO662.out
                (first | subst eo29 | (injection eo29 with f1_ f2_ f3_; have f4_ := f1_.symm; have f5_ := f3_.symm; clear f1_ f2_ f3_; subst f4_; subst f5_))
                refine norm_ (a' := ?_) ?_ ?_
                rotate_left
                · simp only [putAll, Act.put, List.setIfInBounds_toArray, List.set_cons_zero, List.set_cons_succ]
                  rfl
                refine one_ (i := 7) (N := none) #[true, true, true, true, true, true, true, true] rfl rfl (one_of HT_.out (by kernel_rfl)) (by decide) (fun K hK => ?_)
                have hs30 : w28.cell? ⟨gb667, 0, none⟩ = some (.slice none 0 0) := (blk_cell BK667.out 0).trans rfl
                have hfs30 := blk_frozen BK667.out 0
                have hns30_0 := NB649_667.out
                have hns30_1 := NB650_667.out
                have hms30_0 := NB667_649.out
                have hms30_1 := NB667_650.out
                have hs31 : w28.cell? ⟨gb667, 1, none⟩ = some (.int .i64 0) := (blk_cell BK667.out 1).trans rfl
                have hfs31 := blk_frozen BK667.out 1
                have hns31_0 := NB649_667.out
                have hns31_1 := NB650_667.out
                have hms31_0 := NB667_649.out
                have hms31_1 := NB667_650.out
                have hs32 : w28.cell? ⟨gb667, 2, none⟩ = some (.int .i64 0) := (blk_cell BK667.out 2).trans rfl
                have hfs32 := blk_frozen BK667.out 2
                have hns32_0 := NB649_667.out
                have hns32_1 := NB650_667.out
                have hms32_0 := NB667_649.out
                have hms32_1 := NB667_650.out
                have hs33 : w28.cell? ⟨gb667, 3, none⟩ = some (.string (⟨#[]⟩ : ByteArray)) := (blk_cell BK667.out 3).trans rfl
                have hfs33 := blk_frozen BK667.out 3
                have hns33_0 := NB649_667.out
                have hns33_1 := NB650_667.out
                have hms33_0 := NB667_649.out
                have hms33_1 := NB667_650.out
                have hs34 : w28.cell? ⟨gb667, 4, none⟩ = some (.int .i64 0) := (blk_cell BK667.out 4).trans rfl
                have hfs34 := blk_frozen BK667.out 4
                have hns34_0 := NB649_667.out
                have hns34_1 := NB650_667.out
                have hms34_0 := NB667_649.out
                have hms34_1 := NB667_650.out
                refine skip_ (w1 := ?_) (by rfl) rfl ?_ ?_
                rotate_left
                · go_simp
                  rfl
                refine hK.out _ _ ⟨((cell_far (p := ⟨gb667, _, none⟩) NB649_667.out _).trans (((cell_far (p := ⟨gb667, _, none⟩) NB649_667.out _).trans (((cell_far (p := ⟨gb667, _, none⟩) NB649_667.out _).trans (((cell_far (p := ⟨gb667, _, none⟩) NB649_667.out _).trans (((cell_far (p := ⟨gb667, _, none⟩) NB649_667.out _).trans (hHeld.1)))))))))), ((cell_far (p := ⟨gb667, _, none⟩) NB649_667.out _).trans (((cell_far (p := ⟨gb667, _, none⟩) NB649_667.out _).trans (((cell_far (p := ⟨gb667, _, none⟩) NB649_667.out _).trans (((cell_far (p := ⟨gb667, _, none⟩) NB649_667.out _).trans (((cell_far (p := ⟨gb667, _, none⟩) NB649_667.out _).trans (hHeld.2.1)))))))))), ((cell_far (p := ⟨gb667, _, none⟩) (by first | exact Nat.ne_of_lt (Nat.lt_of_lt_of_le (by have := World.block_lt_of_cell? _ _ hw659_0; first | rwa [add_block] at this | exact this) GW667.out) | (rw [add_block]; exact Nat.ne_of_lt (Nat.lt_of_lt_of_le (by have := World.block_lt_of_cell? _ _ hw659_0; first | rwa [add_block] at this | exact this) GW667.out)) | (show (Addr.add _ _).block ≠ _; rw [add_block]; exact Nat.ne_of_lt (Nat.lt_of_lt_of_le (by have := World.block_lt_of_cell? _ _ hw659_0; first | rwa [add_block] at this | exact this) GW667.out)) | (dsimp only; exact Nat.ne_of_lt (Nat.lt_of_lt_of_le (by have := World.block_lt_of_cell? _ _ hw659_0; first | rwa [add_block] at this | exact this) GW667.out))) _).trans (((cell_far (p := ⟨gb667, _, none⟩) (by first | exact Nat.ne_of_lt (Nat.lt_of_lt_of_le (by have := World.block_lt_of_cell? _ _ hw659_0; first | rwa [add_block] at this | exact this) GW667.out) | (rw [add_block]; exact Nat.ne_of_lt (Nat.lt_of_lt_of_le (by have := World.block_lt_of_cell? _ _ hw659_0; first | rwa [add_block] at this | exact this) GW667.out)) | (show (Addr.add _ _).block ≠ _; rw [add_block]; exact Nat.ne_of_lt (Nat.lt_of_lt_of_le (by have := World.block_lt_of_cell? _ _ hw659_0; first | rwa [add_block] at this | exact this) GW667.out)) | (dsimp only; exact Nat.ne_of_lt (Nat.lt_of_lt_of_le (by have := World.block_lt_of_cell? _ _ hw659_0; first | rwa [add_block] at this | exact this) GW667.out))) _).trans (((cell_far (p := ⟨gb667, _, none⟩) (by first | exact Nat.ne_of_lt (Nat.lt_of_lt_of_le (by have := World.block_lt_of_cell? _ _ hw659_0; first | rwa [add_block] at this | exact this) GW667.out) | (rw [add_block]; exact Nat.ne_of_lt (Nat.lt_of_lt_of_le (by have := World.block_lt_of_cell? _ _ hw659_0; first | rwa [add_block] at this | exact this) GW667.out)) | (show (Addr.add _ _).block ≠ _; rw [add_block]; exact Nat.ne_of_lt (Nat.lt_of_lt_of_le (by have := World.block_lt_of_cell? _ _ hw659_0; first | rwa [add_block] at this | exact this) GW667.out)) | (dsimp only; exact Nat.ne_of_lt (Nat.lt_of_lt_of_le (by have := World.block_lt_of_cell? _ _ hw659_0; first | rwa [add_block] at this | exact this) GW667.out))) _).trans (((cell_far (p := ⟨gb667, _, none⟩) (by first | exact Nat.ne_of_lt (Nat.lt_of_lt_of_le (by have := World.block_lt_of_cell? _ _ hw659_0; first | rwa [add_block] at this | exact this) GW667.out) | (rw [add_block]; exact Nat.ne_of_lt (Nat.lt_of_lt_of_le (by have := World.block_lt_of_cell? _ _ hw659_0; first | rwa [add_block] at this | exact this) GW667.out)) | (show (Addr.add _ _).block ≠ _; rw [add_block]; exact Nat.ne_of_lt (Nat.lt_of_lt_of_le (by have := World.block_lt_of_cell? _ _ hw659_0; first | rwa [add_block] at this | exact this) GW667.out)) | (dsimp only; exact Nat.ne_of_lt (Nat.lt_of_lt_of_le (by have := World.block_lt_of_cell? _ _ hw659_0; first | rwa [add_block] at this | exact this) GW667.out))) _).trans (((cell_far (p := ⟨gb667, _, none⟩) (by first | exact Nat.ne_of_lt (Nat.lt_of_lt_of_le (by have := World.block_lt_of_cell? _ _ hw659_0; first | rwa [add_block] at this | exact this) GW667.out) | (rw [add_block]; exact Nat.ne_of_lt (Nat.lt_of_lt_of_le (by have := World.block_lt_of_cell? _ _ hw659_0; first | rwa [add_block] at this | exact this) GW667.out)) | (show (Addr.add _ _).block ≠ _; rw [add_block]; exact Nat.ne_of_lt (Nat.lt_of_lt_of_le (by have := World.block_lt_of_cell? _ _ hw659_0; first | rwa [add_block] at this | exact this) GW667.out)) | (dsimp only; exact Nat.ne_of_lt (Nat.lt_of_lt_of_le (by have := World.block_lt_of_cell? _ _ hw659_0; first | rwa [add_block] at this | exact this) GW667.out))) _).trans (hHeld.2.2.1)))))))))), ((cell_far (p := ⟨gb667, _, none⟩) (by first | exact Nat.ne_of_lt (Nat.lt_of_lt_of_le (by have := World.block_lt_of_cell? _ _ hw659_1; first | rwa [add_block] at this | exact this) GW667.out) | (rw [add_block]; exact Nat.ne_of_lt (Nat.lt_of_lt_of_le (by have := World.block_lt_of_cell? _ _ hw659_1; first | rwa [add_block] at this | exact this) GW667.out)) | (show (Addr.add _ _).block ≠ _; rw [add_block]; exact Nat.ne_of_lt (Nat.lt_of_lt_of_le (by have := World.block_lt_of_cell? _ _ hw659_1; first | rwa [add_block] at this | exact this) GW667.out)) | (dsimp only; exact Nat.ne_of_lt (Nat.lt_of_lt_of_le (by have := World.block_lt_of_cell? _ _ hw659_1; first | rwa [add_block] at this | exact this) GW667.out))) _).trans (((cell_far (p := ⟨gb667, _, none⟩) (by first | exact Nat.ne_of_lt (Nat.lt_of_lt_of_le (by have := World.block_lt_of_cell? _ _ hw659_1; first | rwa [add_block] at this | exact this) GW667.out) | (rw [add_block]; exact Nat.ne_of_lt (Nat.lt_of_lt_of_le (by have := World.block_lt_of_cell? _ _ hw659_1; first | rwa [add_block] at this | exact this) GW667.out)) | (show (Addr.add _ _).block ≠ _; rw [add_block]; exact Nat.ne_of_lt (Nat.lt_of_lt_of_le (by have := World.block_lt_of_cell? _ _ hw659_1; first | rwa [add_block] at this | exact this) GW667.out)) | (dsimp only; exact Nat.ne_of_lt (Nat.lt_of_lt_of_le (by have := World.block_lt_of_cell? _ _ hw659_1; first | rwa [add_block] at this | exact this) GW667.out))) _).trans (((cell_far (p := ⟨gb667, _, none⟩) (by first | exact Nat.ne_of_lt (Nat.lt_of_lt_of_le (by have := World.block_lt_of_cell? _ _ hw659_1; first | rwa [add_block] at this | exact this) GW667.out) | (rw [add_block]; exact Nat.ne_of_lt (Nat.lt_of_lt_of_le (by have := World.block_lt_of_cell? _ _ hw659_1; first | rwa [add_block] at this | exact this) GW667.out)) | (show (Addr.add _ _).block ≠ _; rw [add_block]; exact Nat.ne_of_lt (Nat.lt_of_lt_of_le (by have := World.block_lt_of_cell? _ _ hw659_1; first | rwa [add_block] at this | exact this) GW667.out)) | (dsimp only; exact Nat.ne_of_lt (Nat.lt_of_lt_of_le (by have := World.block_lt_of_cell? _ _ hw659_1; first | rwa [add_block] at this | exact this) GW667.out))) _).trans (((cell_far (p := ⟨gb667, _, none⟩) (by first | exact Nat.ne_of_lt (Nat.lt_of_lt_of_le (by have := World.block_lt_of_cell? _ _ hw659_1; first | rwa [add_block] at this | exact this) GW667.out) | (rw [add_block]; exact Nat.ne_of_lt (Nat.lt_of_lt_of_le (by have := World.block_lt_of_cell? _ _ hw659_1; first | rwa [add_block] at this | exact this) GW667.out)) | (show (Addr.add _ _).block ≠ _; rw [add_block]; exact Nat.ne_of_lt (Nat.lt_of_lt_of_le (by have := World.block_lt_of_cell? _ _ hw659_1; first | rwa [add_block] at this | exact this) GW667.out)) | (dsimp only; exact Nat.ne_of_lt (Nat.lt_of_lt_of_le (by have := World.block_lt_of_cell? _ _ hw659_1; first | rwa [add_block] at this | exact this) GW667.out))) _).trans (((cell_far (p := ⟨gb667, _, none⟩) (by first | exact Nat.ne_of_lt (Nat.lt_of_lt_of_le (by have := World.block_lt_of_cell? _ _ hw659_1; first | rwa [add_block] at this | exact this) GW667.out) | (rw [add_block]; exact Nat.ne_of_lt (Nat.lt_of_lt_of_le (by have := World.block_lt_of_cell? _ _ hw659_1; first | rwa [add_block] at this | exact this) GW667.out)) | (show (Addr.add _ _).block ≠ _; rw [add_block]; exact Nat.ne_of_lt (Nat.lt_of_lt_of_le (by have := World.block_lt_of_cell? _ _ hw659_1; first | rwa [add_block] at this | exact this) GW667.out)) | (dsimp only; exact Nat.ne_of_lt (Nat.lt_of_lt_of_le (by have := World.block_lt_of_cell? _ _ hw659_1; first | rwa [add_block] at this | exact this) GW667.out))) _).trans (hHeld.2.2.2.1)))))))))), ((cell_far (p := ⟨gb667, _, none⟩) (by first | exact Nat.ne_of_lt (Nat.lt_of_lt_of_le (by have := World.block_lt_of_cell? _ _ hw659_2; first | rwa [add_block] at this | exact this) GW667.out) | (rw [add_block]; exact Nat.ne_of_lt (Nat.lt_of_lt_of_le (by have := World.block_lt_of_cell? _ _ hw659_2; first | rwa [add_block] at this | exact this) GW667.out)) | (show (Addr.add _ _).block ≠ _; rw [add_block]; exact Nat.ne_of_lt (Nat.lt_of_lt_of_le (by have := World.block_lt_of_cell? _ _ hw659_2; first | rwa [add_block] at this | exact this) GW667.out)) | (dsimp only; exact Nat.ne_of_lt (Nat.lt_of_lt_of_le (by have := World.block_lt_of_cell? _ _ hw659_2; first | rwa [add_block] at this | exact this) GW667.out))) _).trans (((cell_far (p := ⟨gb667, _, none⟩) (by first | exact Nat.ne_of_lt (Nat.lt_of_lt_of_le (by have := World.block_lt_of_cell? _ _ hw659_2; first | rwa [add_block] at this | exact this) GW667.out) | (rw [add_block]; exact Nat.ne_of_lt (Nat.lt_of_lt_of_le (by have := World.block_lt_of_cell? _ _ hw659_2; first | rwa [add_block] at this | exact this) GW667.out)) | (show (Addr.add _ _).block ≠ _; rw [add_block]; exact Nat.ne_of_lt (Nat.lt_of_lt_of_le (by have := World.block_lt_of_cell? _ _ hw659_2; first | rwa [add_block] at this | exact this) GW667.out)) | (dsimp only; exact Nat.ne_of_lt (Nat.lt_of_lt_of_le (by have := World.block_lt_of_cell? _ _ hw659_2; first | rwa [add_block] at this | exact this) GW667.out))) _).trans (((cell_far (p := ⟨gb667, _, none⟩) (by first | exact Nat.ne_of_lt (Nat.lt_of_lt_of_le (by have := World.block_lt_of_cell? _ _ hw659_2; first | rwa [add_block] at this | exact this) GW667.out) | (rw [add_block]; exact Nat.ne_of_lt (Nat.lt_of_lt_of_le (by have := World.block_lt_of_cell? _ _ hw659_2; first | rwa [add_block] at this | exact this) GW667.out)) | (show (Addr.add _ _).block ≠ _; rw [add_block]; exact Nat.ne_of_lt (Nat.lt_of_lt_of_le (by have := World.block_lt_of_cell? _ _ hw659_2; first | rwa [add_block] at this | exact this) GW667.out)) | (dsimp only; exact Nat.ne_of_lt (Nat.lt_of_lt_of_le (by have := World.block_lt_of_cell? _ _ hw659_2; first | rwa [add_block] at this | exact this) GW667.out))) _).trans (((cell_far (p := ⟨gb667, _, none⟩) (by first | exact Nat.ne_of_lt (Nat.lt_of_lt_of_le (by have := World.block_lt_of_cell? _ _ hw659_2; first | rwa [add_block] at this | exact this) GW667.out) | (rw [add_block]; exact Nat.ne_of_lt (Nat.lt_of_lt_of_le (by have := World.block_lt_of_cell? _ _ hw659_2; first | rwa [add_block] at this | exact this) GW667.out)) | (show (Addr.add _ _).block ≠ _; rw [add_block]; exact Nat.ne_of_lt (Nat.lt_of_lt_of_le (by have := World.block_lt_of_cell? _ _ hw659_2; first | rwa [add_block] at this | exact this) GW667.out)) | (dsimp only; exact Nat.ne_of_lt (Nat.lt_of_lt_of_le (by have := World.block_lt_of_cell? _ _ hw659_2; first | rwa [add_block] at this | exact this) GW667.out))) _).trans (((cell_far (p := ⟨gb667, _, none⟩) (by first | exact Nat.ne_of_lt (Nat.lt_of_lt_of_le (by have := World.block_lt_of_cell? _ _ hw659_2; first | rwa [add_block] at this | exact this) GW667.out) | (rw [add_block]; exact Nat.ne_of_lt (Nat.lt_of_lt_of_le (by have := World.block_lt_of_cell? _ _ hw659_2; first | rwa [add_block] at this | exact this) GW667.out)) | (show (Addr.add _ _).block ≠ _; rw [add_block]; exact Nat.ne_of_lt (Nat.lt_of_lt_of_le (by have := World.block_lt_of_cell? _ _ hw659_2; first | rwa [add_block] at this | exact this) GW667.out)) | (dsimp only; exact Nat.ne_of_lt (Nat.lt_of_lt_of_le (by have := World.block_lt_of_cell? _ _ hw659_2; first | rwa [add_block] at this | exact this) GW667.out))) _).trans (hHeld.2.2.2.2.1)))))))))), ((cell_far (p := ⟨gb667, _, none⟩) (by first | exact Nat.ne_of_lt (Nat.lt_of_lt_of_le (by have := World.block_lt_of_cell? _ _ hw659_3; first | rwa [add_block] at this | exact this) GW667.out) | (rw [add_block]; exact Nat.ne_of_lt (Nat.lt_of_lt_of_le (by have := World.block_lt_of_cell? _ _ hw659_3; first | rwa [add_block] at this | exact this) GW667.out)) | (show (Addr.add _ _).block ≠ _; rw [add_block]; exact Nat.ne_of_lt (Nat.lt_of_lt_of_le (by have := World.block_lt_of_cell? _ _ hw659_3; first | rwa [add_block] at this | exact this) GW667.out)) | (dsimp only; exact Nat.ne_of_lt (Nat.lt_of_lt_of_le (by have := World.block_lt_of_cell? _ _ hw659_3; first | rwa [add_block] at this | exact this) GW667.out))) _).trans (((cell_far (p := ⟨gb667, _, none⟩) (by first | exact Nat.ne_of_lt (Nat.lt_of_lt_of_le (by have := World.block_lt_of_cell? _ _ hw659_3; first | rwa [add_block] at this | exact this) GW667.out) | (rw [add_block]; exact Nat.ne_of_lt (Nat.lt_of_lt_of_le (by have := World.block_lt_of_cell? _ _ hw659_3; first | rwa [add_block] at this | exact this) GW667.out)) | (show (Addr.add _ _).block ≠ _; rw [add_block]; exact Nat.ne_of_lt (Nat.lt_of_lt_of_le (by have := World.block_lt_of_cell? _ _ hw659_3; first | rwa [add_block] at this | exact this) GW667.out)) | (dsimp only; exact Nat.ne_of_lt (Nat.lt_of_lt_of_le (by have := World.block_lt_of_cell? _ _ hw659_3; first | rwa [add_block] at this | exact this) GW667.out))) _).trans (((cell_far (p := ⟨gb667, _, none⟩) (by first | exact Nat.ne_of_lt (Nat.lt_of_lt_of_le (by have := World.block_lt_of_cell? _ _ hw659_3; first | rwa [add_block] at this | exact this) GW667.out) | (rw [add_block]; exact Nat.ne_of_lt (Nat.lt_of_lt_of_le (by have := World.block_lt_of_cell? _ _ hw659_3; first | rwa [add_block] at this | exact this) GW667.out)) | (show (Addr.add _ _).block ≠ _; rw [add_block]; exact Nat.ne_of_lt (Nat.lt_of_lt_of_le (by have := World.block_lt_of_cell? _ _ hw659_3; first | rwa [add_block] at this | exact this) GW667.out)) | (dsimp only; exact Nat.ne_of_lt (Nat.lt_of_lt_of_le (by have := World.block_lt_of_cell? _ _ hw659_3; first | rwa [add_block] at this | exact this) GW667.out))) _).trans (((cell_far (p := ⟨gb667, _, none⟩) (by first | exact Nat.ne_of_lt (Nat.lt_of_lt_of_le (by have := World.block_lt_of_cell? _ _ hw659_3; first | rwa [add_block] at this | exact this) GW667.out) | (rw [add_block]; exact Nat.ne_of_lt (Nat.lt_of_lt_of_le (by have := World.block_lt_of_cell? _ _ hw659_3; first | rwa [add_block] at this | exact this) GW667.out)) | (show (Addr.add _ _).block ≠ _; rw [add_block]; exact Nat.ne_of_lt (Nat.lt_of_lt_of_le (by have := World.block_lt_of_cell? _ _ hw659_3; first | rwa [add_block] at this | exact this) GW667.out)) | (dsimp only; exact Nat.ne_of_lt (Nat.lt_of_lt_of_le (by have := World.block_lt_of_cell? _ _ hw659_3; first | rwa [add_block] at this | exact this) GW667.out))) _).trans (((cell_far (p := ⟨gb667, _, none⟩) (by first | exact Nat.ne_of_lt (Nat.lt_of_lt_of_le (by have := World.block_lt_of_cell? _ _ hw659_3; first | rwa [add_block] at this | exact this) GW667.out) | (rw [add_block]; exact Nat.ne_of_lt (Nat.lt_of_lt_of_le (by have := World.block_lt_of_cell? _ _ hw659_3; first | rwa [add_block] at this | exact this) GW667.out)) | (show (Addr.add _ _).block ≠ _; rw [add_block]; exact Nat.ne_of_lt (Nat.lt_of_lt_of_le (by have := World.block_lt_of_cell? _ _ hw659_3; first | rwa [add_block] at this | exact this) GW667.out)) | (dsimp only; exact Nat.ne_of_lt (Nat.lt_of_lt_of_le (by have := World.block_lt_of_cell? _ _ hw659_3; first | rwa [add_block] at this | exact this) GW667.out))) _).trans (hHeld.2.2.2.2.2.1)))))))))), ((cell_far (p := ⟨gb667, _, none⟩) (by first | exact Nat.ne_of_lt (Nat.lt_of_lt_of_le (by have := World.block_lt_of_cell? _ _ hw659_4; first | rwa [add_block] at this | exact this) GW667.out) | (rw [add_block]; exact Nat.ne_of_lt (Nat.lt_of_lt_of_le (by have := World.block_lt_of_cell? _ _ hw659_4; first | rwa [add_block] at this | exact this) GW667.out)) | (show (Addr.add _ _).block ≠ _; rw [add_block]; exact Nat.ne_of_lt (Nat.lt_of_lt_of_le (by have := World.block_lt_of_cell? _ _ hw659_4; first | rwa [add_block] at this | exact this) GW667.out)) | (dsimp only; exact Nat.ne_of_lt (Nat.lt_of_lt_of_le (by have := World.block_lt_of_cell? _ _ hw659_4; first | rwa [add_block] at this | exact this) GW667.out))) _).trans (((cell_far (p := ⟨gb667, _, none⟩) (by first | exact Nat.ne_of_lt (Nat.lt_of_lt_of_le (by have := World.block_lt_of_cell? _ _ hw659_4; first | rwa [add_block] at this | exact this) GW667.out) | (rw [add_block]; exact Nat.ne_of_lt (Nat.lt_of_lt_of_le (by have := World.block_lt_of_cell? _ _ hw659_4; first | rwa [add_block] at this | exact this) GW667.out)) | (show (Addr.add _ _).block ≠ _; rw [add_block]; exact Nat.ne_of_lt (Nat.lt_of_lt_of_le (by have := World.block_lt_of_cell? _ _ hw659_4; first | rwa [add_block] at this | exact this) GW667.out)) | (dsimp only; exact Nat.ne_of_lt (Nat.lt_of_lt_of_le (by have := World.block_lt_of_cell? _ _ hw659_4; first | rwa [add_block] at this | exact this) GW667.out))) _).trans (((cell_far (p := ⟨gb667, _, none⟩) (by first | exact Nat.ne_of_lt (Nat.lt_of_lt_of_le (by have := World.block_lt_of_cell? _ _ hw659_4; first | rwa [add_block] at this | exact this) GW667.out) | (rw [add_block]; exact Nat.ne_of_lt (Nat.lt_of_lt_of_le (by have := World.block_lt_of_cell? _ _ hw659_4; first | rwa [add_block] at this | exact this) GW667.out)) | (show (Addr.add _ _).block ≠ _; rw [add_block]; exact Nat.ne_of_lt (Nat.lt_of_lt_of_le (by have := World.block_lt_of_cell? _ _ hw659_4; first | rwa [add_block] at this | exact this) GW667.out)) | (dsimp only; exact Nat.ne_of_lt (Nat.lt_of_lt_of_le (by have := World.block_lt_of_cell? _ _ hw659_4; first | rwa [add_block] at this | exact this) GW667.out))) _).trans (((cell_far (p := ⟨gb667, _, none⟩) (by first | exact Nat.ne_of_lt (Nat.lt_of_lt_of_le (by have := World.block_lt_of_cell? _ _ hw659_4; first | rwa [add_block] at this | exact this) GW667.out) | (rw [add_block]; exact Nat.ne_of_lt (Nat.lt_of_lt_of_le (by have := World.block_lt_of_cell? _ _ hw659_4; first | rwa [add_block] at this | exact this) GW667.out)) | (show (Addr.add _ _).block ≠ _; rw [add_block]; exact Nat.ne_of_lt (Nat.lt_of_lt_of_le (by have := World.block_lt_of_cell? _ _ hw659_4; first | rwa [add_block] at this | exact this) GW667.out)) | (dsimp only; exact Nat.ne_of_lt (Nat.lt_of_lt_of_le (by have := World.block_lt_of_cell? _ _ hw659_4; first | rwa [add_block] at this | exact this) GW667.out))) _).trans (((cell_far (p := ⟨gb667, _, none⟩) (by first | exact Nat.ne_of_lt (Nat.lt_of_lt_of_le (by have := World.block_lt_of_cell? _ _ hw659_4; first | rwa [add_block] at this | exact this) GW667.out) | (rw [add_block]; exact Nat.ne_of_lt (Nat.lt_of_lt_of_le (by have := World.block_lt_of_cell? _ _ hw659_4; first | rwa [add_block] at this | exact this) GW667.out)) | (show (Addr.add _ _).block ≠ _; rw [add_block]; exact Nat.ne_of_lt (Nat.lt_of_lt_of_le (by have := World.block_lt_of_cell? _ _ hw659_4; first | rwa [add_block] at this | exact this) GW667.out)) | (dsimp only; exact Nat.ne_of_lt (Nat.lt_of_lt_of_le (by have := World.block_lt_of_cell? _ _ hw659_4; first | rwa [add_block] at this | exact this) GW667.out))) _).trans (hHeld.2.2.2.2.2.2))))))))))⟩ (fun hHeld => ?_)
                clear hK K
                refine done_ (done_of HT_.out (by kernel_rfl)) ?_
                have hnb35 := NB667_649.out
                have hnc35 := NB649_667.out
                have hnb36 := NB667_650.out
                have hnc36 := NB650_667.out
                have hcz37_0 := cz_ BK667 0 (.slice none 0 0)
                have hcz37_1 := cz_ BK667 1 (.int .i64 0)
                have hcz37_2 := cz_ BK667 2 (.int .i64 0)
                have hcz37_3 := cz_ BK667 3 (.string (⟨#[]⟩ : ByteArray))
                have hcz37_4 := cz_ BK667 4 (.int .i64 0)
                have hfz37_0 := blk_frozen BK667.out 0
                have hfz37_1 := blk_frozen BK667.out 1
                have hfz37_2 := blk_frozen BK667.out 2
                have hfz37_3 := blk_frozen BK667.out 3
                have hfz37_4 := blk_frozen BK667.out 4
                have hnb38 := NB649_650.out
                have hnc38 := NB650_649.out
                have hcz39_0 := cz_ BK649 0 (.slice Ao24 x650000_1.length co24)
                have hcz39_1 := cz_ BK649 1 (.int .i64 x650001_1)
                have hfz39_0 := blk_frozen BK649.out 0
                have hfz39_1 := blk_frozen BK649.out 1
                try go_wp2
                go_roundg k1
                case measure => have := HK1.out; omega
                case rel => exact ⟨(wrap64 (x6_1 + 1)), (t660), (t663), (x651001_1), (x651002_1), (x651003_1), (x651004_1), (.slice Ao29 t660.length co29), (by first | rfl | (simp; done) | (simp [*]; done)), H', ⟨by have := HK1.out; omega⟩, ⟨Kd.V_mono (Kd.R_V (by (with_reducible repeat (first | apply Kd.R_alloc | apply Kd.R_drewN | apply Kd.R_drew)); exact Kd.R_mono (Kd.R_far (p := ⟨gb649, 1, none⟩) (Kd.R_far (p := ⟨gb649, 0, none⟩) (Kd.R_far (p := ⟨gb667, 4, none⟩) (Kd.R_far (p := ⟨gb667, 3, none⟩) (Kd.R_far (p := ⟨gb667, 2, none⟩) (Kd.R_far (p := ⟨gb667, 1, none⟩) (Kd.R_far (p := ⟨gb667, 0, none⟩) (Kd.R_types (Kd.R_types (Kd.R_types (Kd.R_types HO662.out BK649.out (by decide)) BK650.out (by decide)) BK667.out (by decide)) BK649.out (by decide)) (fun _ hk => hk.1.2) (.slice Ao29 t660.length co29)) (fun _ hk => hk.1.2) (.int .i64 t663)) (fun _ hk => hk.1.2) (.int .i64 t664)) (fun _ hk => hk.1.2) (.string t665)) (fun _ hk => hk.1.2) (.int .i64 t666)) (fun _ hk => hk.2) (.slice Ao29 t660.length co29)) (fun _ hk => hk.2) (.int .i64 t663)) (fun _ hk => (And.intro (hk.1.1.1.1) (And.intro (hk.1.1.1.2) (hk.1.1.2)))))) (fun k_ hk => by first | exact ⟨(.inr (hk.1)), hk.2⟩ | exact (.inr (hk)))⟩, ⟨by (with_reducible repeat (first | refine blk_drewN ?_ _ | refine blk_drew ?_ | refine blk_alloc ?_ _)); refine blk_put (cs := #[.slice Ao29 t660.length co29, .int .i64 x650001_1]) ?_ 1 _ rfl; (with_reducible repeat (first | refine blk_drewN ?_ _ | refine blk_drew ?_ | refine blk_alloc ?_ _)); refine blk_put (cs := #[.slice Ao24 x650000_1.length co24, .int .i64 x650001_1]) ?_ 0 _ rfl; (with_reducible repeat (first | refine blk_drewN ?_ _ | refine blk_drew ?_ | refine blk_alloc ?_ _)); refine blk_far ?_ NB649_667.out _; (with_reducible repeat (first | refine blk_drewN ?_ _ | refine blk_drew ?_ | refine blk_alloc ?_ _)); refine blk_far ?_ NB649_667.out _; (with_reducible repeat (first | refine blk_drewN ?_ _ | refine blk_drew ?_ | refine blk_alloc ?_ _)); refine blk_far ?_ NB649_667.out _; (with_reducible repeat (first | refine blk_drewN ?_ _ | refine blk_drew ?_ | refine blk_alloc ?_ _)); refine blk_far ?_ NB649_667.out _; (with_reducible repeat (first | refine blk_drewN ?_ _ | refine blk_drew ?_ | refine blk_alloc ?_ _)); refine blk_far ?_ NB649_667.out _; (with_reducible repeat (first | refine blk_drewN ?_ _ | refine blk_drew ?_ | refine blk_alloc ?_ _)); exact BK649.out⟩, ⟨by (with_reducible repeat (first | refine blk_drewN ?_ _ | refine blk_drew ?_ | refine blk_alloc ?_ _)); refine blk_far ?_ NB650_649.out _; (with_reducible repeat (first | refine blk_drewN ?_ _ | refine blk_drew ?_ | refine blk_alloc ?_ _)); refine blk_far ?_ NB650_649.out _; (with_reducible repeat (first | refine blk_drewN ?_ _ | refine blk_drew ?_ | refine blk_alloc ?_ _)); refine blk_far ?_ NB650_667.out _; (with_reducible repeat (first | refine blk_drewN ?_ _ | refine blk_drew ?_ | refine blk_alloc ?_ _)); refine blk_far ?_ NB650_667.out _; (with_reducible repeat (first | refine blk_drewN ?_ _ | refine blk_drew ?_ | refine blk_alloc ?_ _)); refine blk_far ?_ NB650_667.out _; (with_reducible repeat (first | refine blk_drewN ?_ _ | refine blk_drew ?_ | refine blk_alloc ?_ _)); refine blk_far ?_ NB650_667.out _; (with_reducible repeat (first | refine blk_drewN ?_ _ | refine blk_drew ?_ | refine blk_alloc ?_ _)); refine blk_far ?_ NB650_667.out _; (with_reducible repeat (first | refine blk_drewN ?_ _ | refine blk_drew ?_ | refine blk_alloc ?_ _)); exact BK650.out⟩, ⟨pb_ HB⟩⟩
              · rw [if_neg c23] at H
                have c23b0 : (t666 == 0) = false := beq_eq_false_iff_ne.mpr c23
                have c23b1 : (t666 != 0) = true := bne_iff_ne.mpr c23
                simp only [Option.some.injEq, Prod.mk.injEq] at H
                obtain ⟨rfl, rfl, rfl, rfl, rfl⟩ := H
                obtain ⟨Ao40, co40, eo40⟩ := Kd.V_slice HO_650000.out
                subst eo40
                try go_wp2
                replace HO_650000 := Aside0.mk (Kd.V_drew HO_650000.out)
                replace BK649 := Aside0.mk (blk_drew BK649.out)
                replace BK650 := Aside0.mk (blk_drew BK650.out)
                replace HB := Aside0.mk (below_drew1 HB.out)
                have p659 : 0 ≤ (x6_1 : Int) := ct_
                have q659 : x6_1 < (l1.length : Int) := ct_
                obtain ⟨ad659, e659, hx659_0, hx659_1, hx659_2, hx659_3, hx659_4⟩ := at_T66 HR1.out x6_1 p659 q659
                have hw659_4 := hx659_4
                have hw659_3 := hx659_3
                have hw659_2 := hx659_2
                have hw659_1 := hx659_1
                have hw659_0 := hx659_0
                cases e659
                replace hx659_0 := (HB.out.cell (World.block_lt_of_cell? w _ hx659_0)).trans hx659_0
                replace hx659_1 := (HB.out.cell (World.block_lt_of_cell? w _ hx659_1)).trans hx659_1
                replace hx659_2 := (HB.out.cell (World.block_lt_of_cell? w _ hx659_2)).trans hx659_2
                replace hx659_3 := (HB.out.cell (World.block_lt_of_cell? w _ hx659_3)).trans hx659_3
                replace hx659_4 := (HB.out.cell (World.block_lt_of_cell? w _ hx659_4)).trans hx659_4
                replace p659 := eq_true p659
                replace q659 := eq_true q659
                refine start_ (n := 8) (S := fun w' => w'.cell? ⟨gb649, 0, none⟩ = some (.slice Ao40 x650000_1.length co40) ∧ w'.cell? ⟨gb649, 1, none⟩ = some (.int .i64 x650001_1) ∧ w'.cell? (ad659.add ((x6_1).toNat * 5)) = some (.int .i64 ((rd_T66 l1 x6_1).f0)) ∧ w'.cell? ⟨(ad659.add ((x6_1).toNat * 5)).block, (ad659.add ((x6_1).toNat * 5)).off + 1, none⟩ = some (.int .i64 ((rd_T66 l1 x6_1).f1)) ∧ w'.cell? ⟨(ad659.add ((x6_1).toNat * 5)).block, (ad659.add ((x6_1).toNat * 5)).off + 2, none⟩ = some (.int .i64 ((rd_T66 l1 x6_1).f2)) ∧ w'.cell? ⟨(ad659.add ((x6_1).toNat * 5)).block, (ad659.add ((x6_1).toNat * 5)).off + 3, none⟩ = some (.int .i64 ((rd_T66 l1 x6_1).f3)) ∧ w'.cell? ⟨(ad659.add ((x6_1).toNat * 5)).block, (ad659.add ((x6_1).toNat * 5)).off + 4, none⟩ = some (.string ((rd_T66 l1 x6_1).f4))) (ds := []) #[false, false, false, false, false, false, false, false] (by kernel_rfl) rfl rfl ⟨(blk_cell BK649.out 0).trans rfl, (blk_cell BK649.out 1).trans rfl, ((HB.out.cell (World.block_lt_of_cell? w _ hw659_0)).trans hw659_0), ((HB.out.cell (World.block_lt_of_cell? w _ hw659_1)).trans hw659_1), ((HB.out.cell (World.block_lt_of_cell? w _ hw659_2)).trans hw659_2), ((HB.out.cell (World.block_lt_of_cell? w _ hw659_3)).trans hw659_3), ((HB.out.cell (World.block_lt_of_cell? w _ hw659_4)).trans hw659_4)⟩ (fun hHeld => ?_); refine with_tabW midrangeref04_Applied.tab9 midrangeref04_Applied.bits9 (fun HT_ HW_ => ?_)
                generalize wr.drew = w41 at HO_650000 BK649 BK650 HB hx659_0 hx659_1 hx659_2 hx659_3 hx659_4 hHeld ⊢
                refine pu_ 1 25 HT_ ?_
                refine pu_ 2 26 HT_ ?_
                refine pu_ 3 27 HT_ ?_
                refine take_ (i := 0) (N := some 24) (v := ?_) (a' := ?_) #[true, true, true, true, false, false, false, false] rfl rfl (take_ofW HT_.out HW_.out (by kernel_rfl)) (fun _ _ _ h => h) (Or.inl ⟨by rfl, ?_⟩) hHeld ?_ ?_
                rotate_left
                · rintro w' ⟨s0, s1, s2, s3, s4, s5, s6⟩
                  go_simp
                  with_reducible rfl
                rotate_left
                · simp only [Act.put, List.setIfInBounds_toArray, List.set_cons_zero, List.set_cons_succ, i64_w, i32_w]
                  rfl
                refine take_ (i := 4) (N := some 28) (v := ?_) (a' := ?_) #[true, true, true, true, true, false, false, false] rfl rfl (take_ofW HT_.out HW_.out (by kernel_rfl)) (fun _ _ _ h => h) (Or.inl ⟨by rfl, ?_⟩) hHeld ?_ ?_
                rotate_left
                · rintro w' ⟨s0, s1, s2, s3, s4, s5, s6⟩
                  go_simp
                  with_reducible rfl
                rotate_left
                · simp only [Act.put, List.setIfInBounds_toArray, List.set_cons_zero, List.set_cons_succ, i64_w, i32_w]
                  rfl
                refine join_ (σ := Value × Nat) 1 #[true, true, true, true, true, true, true, false] (fun s_ => [(29, .agg #[s_.1, .int .i64 t663, .int .i64 t664, .string t665, .int .i64 t666]), (7, .pointer (some ⟨s_.2, 0, none⟩))]) (fun s_ w' => (w'.cell? ⟨gb649, 0, none⟩ = some (.slice Ao40 x650000_1.length co40) ∧ w'.cell? ⟨gb649, 1, none⟩ = some (.int .i64 x650001_1) ∧ w'.cell? (ad659.add ((x6_1).toNat * 5)) = some (.int .i64 ((rd_T66 l1 x6_1).f0)) ∧ w'.cell? ⟨(ad659.add ((x6_1).toNat * 5)).block, (ad659.add ((x6_1).toNat * 5)).off + 1, none⟩ = some (.int .i64 ((rd_T66 l1 x6_1).f1)) ∧ w'.cell? ⟨(ad659.add ((x6_1).toNat * 5)).block, (ad659.add ((x6_1).toNat * 5)).off + 2, none⟩ = some (.int .i64 ((rd_T66 l1 x6_1).f2)) ∧ w'.cell? ⟨(ad659.add ((x6_1).toNat * 5)).block, (ad659.add ((x6_1).toNat * 5)).off + 3, none⟩ = some (.int .i64 ((rd_T66 l1 x6_1).f3)) ∧ w'.cell? ⟨(ad659.add ((x6_1).toNat * 5)).block, (ad659.add ((x6_1).toNat * 5)).off + 4, none⟩ = some (.string ((rd_T66 l1 x6_1).f4))) ∧ (Kd.R k56 56 w' w.heap.size (fun k_ => (w.heap.size ≤ k_)) s_.1 t660) ∧ (Kd.V k56 56 w' w.heap.size (fun k_ => (P0_0_ k_ ∨ w.heap.size ≤ k_) ∧ some k_ ≠ (s_.1 : Value).ownBlock ∧ k_ ≠ gb649 ∧ k_ ≠ gb650 ∧ k_ ≠ s_.2) (.slice Ao40 x650000_1.length co40) x650000_1) ∧ (w'.heap[gb649]? = some (.cells #[.slice Ao40 x650000_1.length co40, .int .i64 x650001_1] 24 (0, 0))) ∧ (w'.heap[gb650]? = some (.cells #[.slice none 0 0, .int .i64 x651001_1, .int .i64 x651002_1, .string x651003_1, .int .i64 x651004_1] 34 (0, 0))) ∧ (w'.heap[s_.2]? = some (.cells #[.slice none 0 0, .int .i64 0, .int .i64 0, .string (⟨#[]⟩ : ByteArray), .int .i64 0] 34 (0, 0))) ∧ (w.heap.size ≤ s_.2) ∧ (w.heap.size ≤ s_.2) ∧ (gb649 ≠ s_.2) ∧ (s_.2 ≠ gb649) ∧ (gb650 ≠ s_.2) ∧ (s_.2 ≠ gb650) ∧ (Below w.heap.size w w')) ?_ ?_
                rotate_left
                · intro hCont
                  refine two_ (i := 5) (j := 6) (Ni := some 29) (Nj := some 7) #[true, true, true, true, true, true, false, false] #[true, true, true, true, true, false, true, false] rfl rfl rfl rfl (two_of HT_.out (by kernel_rfl)) (by decide) (by decide) (fun K hK => ?_) (fun K hK => ?_)
                  · skip
                    refine goes_ Try.func53 (by kernel_rfl) rfl #[.agg #[.slice Ao40 x650000_1.length co40, .int .i64 x650001_1], .agg #[.int .i64 ((rd_T66 l1 x6_1).f0), .int .i64 ((rd_T66 l1 x6_1).f1), .int .i64 ((rd_T66 l1 x6_1).f2), .int .i64 ((rd_T66 l1 x6_1).f3), .string ((rd_T66 l1 x6_1).f4)]] (by rfl) rfl rfl (by (try simp only [List.map_toArray, List.map_cons, List.map_nil]); first | done | rfl | (simp only [List.length_drop, List.length_take]; rfl)) ?_
                    with_reducible refine (midrangeref04_Done.calls k1 _ _ x650000_1 x650001_1 ((rd_T66 l1 x6_1).f0) ((rd_T66 l1 x6_1).f1) ((rd_T66 l1 x6_1).f2) ((rd_T66 l1 x6_1).f3) ((rd_T66 l1 x6_1).f4) t660 t663 t664 t665 t666 _ ?side1 ?side2 A22.out).mono ?_
                    (case side1 => exact pc_ (Kd.V_reads' HO_650000.out).2.2)
                    (case side2 => exact (Kd.V_reads' HO_650000.out).2.1)
                    rintro e w42 ⟨v661, rfl, ho0, hb⟩
                    refine ⟨_, rfl, ?_⟩
                    replace HO_650000 := Aside0.mk (Kd.V_elder' (by (with_reducible repeat (first | apply Kd.V_alloc | apply Kd.V_drewN | apply Kd.V_drew)); exact HO_650000.out) (Kd.R_base ho0) hb)
                    have HO662 := Aside0.mk (Kd.R_lower (Kd.R_newM (M := fun k_ => (w.heap.size ≤ k_)) ho0 (below_size (pb_ HB)) (fun k_ h_ => h_)) (below_size (pb_ HB)))
                    replace BK649 := kb_ BK649 hb
                    replace BK650 := kb_ BK650 hb
                    replace HB := sb_ HB hb
                    (try clear hb)
                    (try clear hb2)
                    (try clear hk)
                    (try clear hi)
                    (try clear ho0)
                    refine hK.out _ _ ⟨(blk_cell BK649.out 0).trans rfl, (blk_cell BK649.out 1).trans rfl, ((HB.out.cell (World.block_lt_of_cell? w _ hw659_0)).trans hw659_0), ((HB.out.cell (World.block_lt_of_cell? w _ hw659_1)).trans hw659_1), ((HB.out.cell (World.block_lt_of_cell? w _ hw659_2)).trans hw659_2), ((HB.out.cell (World.block_lt_of_cell? w _ hw659_3)).trans hw659_3), ((HB.out.cell (World.block_lt_of_cell? w _ hw659_4)).trans hw659_4)⟩ (fun hHeld => ?_)
                    clear hK K
                    refine norm_ (a' := ?_) ?_ ?_
                    rotate_left
                    · show Act.put _ (some 29) _ = _
                      simp only [Act.put, List.setIfInBounds_toArray, List.set_cons_zero, List.set_cons_succ, i64_w, i32_w]
                      rfl
                    refine one_ (i := 6) (N := some 7) #[true, true, true, true, true, true, true, false] rfl rfl (one_of HT_.out (by kernel_rfl)) (by decide) (fun K hK => ?_)
                    refine box_step ?hg (N := 7) ?hd (cs := #[.slice none 0 0, .int .i64 0, .int .i64 0, .string (⟨#[]⟩ : ByteArray), .int .i64 0]) (t := 34) ?hr ?_; (case hd => rfl); (case hg => rfl); (case hr => first | (go_simp; done) | (go_simp; rfl))
                    intro gb667 hg w43 hbox hb
                    replace HO_650000 := Aside0.mk (Kd.V_below (Kd.V_elderB (by (with_reducible repeat (first | apply Kd.V_alloc | apply Kd.V_drewN | apply Kd.V_drew)); exact HO_650000.out) gb667 (Nat.le_of_eq hg.symm)) hb)
                    replace HO662 := Aside0.mk (Kd.R_below (by (with_reducible repeat (first | apply Kd.R_alloc | apply Kd.R_drewN | apply Kd.R_drew)); exact HO662.out) hb)
                    have BK667 := Aside0.mk (hbox)
                    have GW667 := gw_ hg HB
                    have GE667 := gw_ hg HB
                    replace HB := sb_ HB hb
                    have NB649_667 := nl_ hg BK649
                    have NB667_649 := ng_ hg BK649
                    replace BK649 := kb_ BK649 hb
                    have NB650_667 := nl_ hg BK650
                    have NB667_650 := ng_ hg BK650
                    replace BK650 := kb_ BK650 hb
                    clear hb hbox hg
                    refine hK.out _ _ ⟨(blk_cell BK649.out 0).trans rfl, (blk_cell BK649.out 1).trans rfl, ((HB.out.cell (World.block_lt_of_cell? w _ hw659_0)).trans hw659_0), ((HB.out.cell (World.block_lt_of_cell? w _ hw659_1)).trans hw659_1), ((HB.out.cell (World.block_lt_of_cell? w _ hw659_2)).trans hw659_2), ((HB.out.cell (World.block_lt_of_cell? w _ hw659_3)).trans hw659_3), ((HB.out.cell (World.block_lt_of_cell? w _ hw659_4)).trans hw659_4)⟩ (fun hHeld => ?_)
                    clear hK K
                    refine norm_ (a' := ?_) ?_ ?_
                    rotate_left
                    · show Act.put _ (some 7) _ = _
                      simp only [Act.put, List.setIfInBounds_toArray, List.set_cons_zero, List.set_cons_succ, i64_w, i32_w]
                      rfl
                    exact norm_ (by simp only [putAll, Act.put, List.setIfInBounds_toArray, List.set_cons_zero, List.set_cons_succ]) (hCont (v661, gb667) _ ⟨hHeld, (by (with_reducible repeat (first | apply Kd.R_alloc | apply Kd.R_drewN | apply Kd.R_drew)); exact Kd.R_mono HO662.out (fun _ hk => hk.1)), (by (with_reducible repeat (first | apply Kd.V_alloc | apply Kd.V_drewN | apply Kd.V_drew)); exact Kd.V_mono HO_650000.out (fun _ hk => ⟨hk.1.1.1, ⟨hk.1.2, ⟨hk.1.1.2.1, ⟨hk.1.1.2.2, hk.2⟩⟩⟩⟩)), (pk_ BK649), (pk_ BK650), (pk_ BK667), GW667.out, GE667.out, NB649_667.out, NB667_649.out, NB650_667.out, NB667_650.out, (pb_ HB)⟩)
                  · skip
                    refine box_step ?hg (N := 7) ?hd (cs := #[.slice none 0 0, .int .i64 0, .int .i64 0, .string (⟨#[]⟩ : ByteArray), .int .i64 0]) (t := 34) ?hr ?_; (case hd => rfl); (case hg => rfl); (case hr => first | (go_simp; done) | (go_simp; rfl))
                    intro gb667 hg w42 hbox hb
                    replace HO_650000 := Aside0.mk (Kd.V_below (Kd.V_elderB (by (with_reducible repeat (first | apply Kd.V_alloc | apply Kd.V_drewN | apply Kd.V_drew)); exact HO_650000.out) gb667 (Nat.le_of_eq hg.symm)) hb)
                    have BK667 := Aside0.mk (hbox)
                    have GW667 := gw_ hg HB
                    have GE667 := gw_ hg HB
                    replace HB := sb_ HB hb
                    have NB649_667 := nl_ hg BK649
                    have NB667_649 := ng_ hg BK649
                    replace BK649 := kb_ BK649 hb
                    have NB650_667 := nl_ hg BK650
                    have NB667_650 := ng_ hg BK650
                    replace BK650 := kb_ BK650 hb
                    clear hb hbox hg
                    refine hK.out _ _ ⟨(blk_cell BK649.out 0).trans rfl, (blk_cell BK649.out 1).trans rfl, ((HB.out.cell (World.block_lt_of_cell? w _ hw659_0)).trans hw659_0), ((HB.out.cell (World.block_lt_of_cell? w _ hw659_1)).trans hw659_1), ((HB.out.cell (World.block_lt_of_cell? w _ hw659_2)).trans hw659_2), ((HB.out.cell (World.block_lt_of_cell? w _ hw659_3)).trans hw659_3), ((HB.out.cell (World.block_lt_of_cell? w _ hw659_4)).trans hw659_4)⟩ (fun hHeld => ?_)
                    clear hK K
                    refine norm_ (a' := ?_) ?_ ?_
                    rotate_left
                    · show Act.put _ (some 7) _ = _
                      simp only [Act.put, List.setIfInBounds_toArray, List.set_cons_zero, List.set_cons_succ, i64_w, i32_w]
                      rfl
                    refine one_ (i := 5) (N := some 29) #[true, true, true, true, true, true, true, false] rfl rfl (one_of HT_.out (by kernel_rfl)) (by decide) (fun K hK => ?_)
                    refine goes_ Try.func53 (by kernel_rfl) rfl #[.agg #[.slice Ao40 x650000_1.length co40, .int .i64 x650001_1], .agg #[.int .i64 ((rd_T66 l1 x6_1).f0), .int .i64 ((rd_T66 l1 x6_1).f1), .int .i64 ((rd_T66 l1 x6_1).f2), .int .i64 ((rd_T66 l1 x6_1).f3), .string ((rd_T66 l1 x6_1).f4)]] (by rfl) rfl rfl (by (try simp only [List.map_toArray, List.map_cons, List.map_nil]); first | done | rfl | (simp only [List.length_drop, List.length_take]; rfl)) ?_
                    with_reducible refine (midrangeref04_Done.calls k1 _ _ x650000_1 x650001_1 ((rd_T66 l1 x6_1).f0) ((rd_T66 l1 x6_1).f1) ((rd_T66 l1 x6_1).f2) ((rd_T66 l1 x6_1).f3) ((rd_T66 l1 x6_1).f4) t660 t663 t664 t665 t666 _ ?side1 ?side2 A22.out).mono ?_
                    (case side1 => exact pc_ (Kd.V_reads' HO_650000.out).2.2)
                    (case side2 => exact (Kd.V_reads' HO_650000.out).2.1)
                    rintro e w43 ⟨v661, rfl, ho0, hb⟩
                    refine ⟨_, rfl, ?_⟩
                    replace HO_650000 := Aside0.mk (Kd.V_elder' (by (with_reducible repeat (first | apply Kd.V_alloc | apply Kd.V_drewN | apply Kd.V_drew)); exact HO_650000.out) (Kd.R_base ho0) hb)
                    have HO662 := Aside0.mk (Kd.R_lower (Kd.R_newM (M := fun k_ => (w.heap.size ≤ k_)) ho0 (below_size (pb_ HB)) (fun k_ h_ => h_)) (below_size (pb_ HB)))
                    replace BK649 := kb_ BK649 hb
                    replace BK650 := kb_ BK650 hb
                    replace BK667 := kb_ BK667 hb
                    replace HB := sb_ HB hb
                    (try clear hb)
                    (try clear hb2)
                    (try clear hk)
                    (try clear hi)
                    (try clear ho0)
                    refine hK.out _ _ ⟨(blk_cell BK649.out 0).trans rfl, (blk_cell BK649.out 1).trans rfl, ((HB.out.cell (World.block_lt_of_cell? w _ hw659_0)).trans hw659_0), ((HB.out.cell (World.block_lt_of_cell? w _ hw659_1)).trans hw659_1), ((HB.out.cell (World.block_lt_of_cell? w _ hw659_2)).trans hw659_2), ((HB.out.cell (World.block_lt_of_cell? w _ hw659_3)).trans hw659_3), ((HB.out.cell (World.block_lt_of_cell? w _ hw659_4)).trans hw659_4)⟩ (fun hHeld => ?_)
                    clear hK K
                    refine norm_ (a' := ?_) ?_ ?_
                    rotate_left
                    · show Act.put _ (some 29) _ = _
                      simp only [Act.put, List.setIfInBounds_toArray, List.set_cons_zero, List.set_cons_succ, i64_w, i32_w]
                      rfl
                    exact norm_ (by simp only [putAll, Act.put, List.setIfInBounds_toArray, List.set_cons_zero, List.set_cons_succ]) (hCont (v661, gb667) _ ⟨hHeld, (by (with_reducible repeat (first | apply Kd.R_alloc | apply Kd.R_drewN | apply Kd.R_drew)); exact Kd.R_mono HO662.out (fun _ hk => hk.1)), (by (with_reducible repeat (first | apply Kd.V_alloc | apply Kd.V_drewN | apply Kd.V_drew)); exact Kd.V_mono HO_650000.out (fun _ hk => ⟨hk.1.1.1, ⟨hk.2, ⟨hk.1.1.2.1, ⟨hk.1.1.2.2, hk.1.2⟩⟩⟩⟩)), (pk_ BK649), (pk_ BK650), (pk_ BK667), GW667.out, GE667.out, NB649_667.out, NB667_649.out, NB650_667.out, NB667_650.out, (pb_ HB)⟩)
                rintro ⟨v661, gb667⟩ w44 ⟨hS_, h0_, h1_, h2_, h3_, h4_, h5_, h6_, h7_, h8_, h9_, h10_, h11_⟩
                have n0_ : Aside0 (Kd.R k56 56 w44 w.heap.size (fun k_ => (w.heap.size ≤ k_)) v661 t660) := ⟨h0_⟩
                have n1_ : Aside0 (Kd.V k56 56 w44 w.heap.size (fun k_ => (P0_0_ k_ ∨ w.heap.size ≤ k_) ∧ some k_ ≠ (v661 : Value).ownBlock ∧ k_ ≠ gb649 ∧ k_ ≠ gb650 ∧ k_ ≠ gb667) (.slice Ao40 x650000_1.length co40) x650000_1) := ⟨h1_⟩
                have n2_ : Aside0 (w44.heap[gb649]? = some (.cells #[.slice Ao40 x650000_1.length co40, .int .i64 x650001_1] 24 (0, 0))) := ⟨h2_⟩
                have n3_ : Aside0 (w44.heap[gb650]? = some (.cells #[.slice none 0 0, .int .i64 x651001_1, .int .i64 x651002_1, .string x651003_1, .int .i64 x651004_1] 34 (0, 0))) := ⟨h3_⟩
                have n4_ : Aside0 (w44.heap[gb667]? = some (.cells #[.slice none 0 0, .int .i64 0, .int .i64 0, .string (⟨#[]⟩ : ByteArray), .int .i64 0] 34 (0, 0))) := ⟨h4_⟩
                have n5_ : Aside0 (w.heap.size ≤ gb667) := ⟨h5_⟩
                have n6_ : Aside0 (w.heap.size ≤ gb667) := ⟨h6_⟩
                have n7_ : Aside0 (gb649 ≠ gb667) := ⟨h7_⟩
                have n8_ : Aside0 (gb667 ≠ gb649) := ⟨h8_⟩
                have n9_ : Aside0 (gb650 ≠ gb667) := ⟨h9_⟩
                have n10_ : Aside0 (gb667 ≠ gb650) := ⟨h10_⟩
                have n11_ : Aside0 (Below w.heap.size w w44) := ⟨h11_⟩
                clear HO_650000
                clear BK649
                clear BK650
                clear HB
                clear h0_ h1_ h2_ h3_ h4_ h5_ h6_ h7_ h8_ h9_ h10_ h11_
                have HO662 := n0_
                have HO_650000 := n1_
                have BK649 := n2_
                have BK650 := n3_
                have BK667 := n4_
                have GW667 := n5_
                have GE667 := n6_
                have NB649_667 := n7_
                have NB667_649 := n8_
                have NB650_667 := n9_
                have NB667_650 := n10_
                have HB := n11_
                clear n0_ n1_ n2_ n3_ n4_ n5_ n6_ n7_ n8_ n9_ n10_ n11_
                have hHeld : w44.cell? ⟨gb649, 0, none⟩ = some (.slice Ao40 x650000_1.length co40) ∧ w44.cell? ⟨gb649, 1, none⟩ = some (.int .i64 x650001_1) ∧ w44.cell? (ad659.add ((x6_1).toNat * 5)) = some (.int .i64 ((rd_T66 l1 x6_1).f0)) ∧ w44.cell? ⟨(ad659.add ((x6_1).toNat * 5)).block, (ad659.add ((x6_1).toNat * 5)).off + 1, none⟩ = some (.int .i64 ((rd_T66 l1 x6_1).f1)) ∧ w44.cell? ⟨(ad659.add ((x6_1).toNat * 5)).block, (ad659.add ((x6_1).toNat * 5)).off + 2, none⟩ = some (.int .i64 ((rd_T66 l1 x6_1).f2)) ∧ w44.cell? ⟨(ad659.add ((x6_1).toNat * 5)).block, (ad659.add ((x6_1).toNat * 5)).off + 3, none⟩ = some (.int .i64 ((rd_T66 l1 x6_1).f3)) ∧ w44.cell? ⟨(ad659.add ((x6_1).toNat * 5)).block, (ad659.add ((x6_1).toNat * 5)).off + 4, none⟩ = some (.string ((rd_T66 l1 x6_1).f4)) := hS_
                obtain ⟨Ao45, co45, eo45⟩ := Kd.R_slice HO662.out
                (first | subst eo45 | (injection eo45 with f1_ f2_ f3_; have f4_ := f1_.symm; have f5_ := f3_.symm; clear f1_ f2_ f3_; subst f4_; subst f5_))
                refine norm_ (a' := ?_) ?_ ?_
                rotate_left
                · simp only [putAll, Act.put, List.setIfInBounds_toArray, List.set_cons_zero, List.set_cons_succ]
                  rfl
                refine one_ (i := 7) (N := none) #[true, true, true, true, true, true, true, true] rfl rfl (one_of HT_.out (by kernel_rfl)) (by decide) (fun K hK => ?_)
                have hs46 : w44.cell? ⟨gb667, 0, none⟩ = some (.slice none 0 0) := (blk_cell BK667.out 0).trans rfl
                have hfs46 := blk_frozen BK667.out 0
                have hns46_0 := NB649_667.out
                have hns46_1 := NB650_667.out
                have hms46_0 := NB667_649.out
                have hms46_1 := NB667_650.out
                have hs47 : w44.cell? ⟨gb667, 1, none⟩ = some (.int .i64 0) := (blk_cell BK667.out 1).trans rfl
                have hfs47 := blk_frozen BK667.out 1
                have hns47_0 := NB649_667.out
                have hns47_1 := NB650_667.out
                have hms47_0 := NB667_649.out
                have hms47_1 := NB667_650.out
                have hs48 : w44.cell? ⟨gb667, 2, none⟩ = some (.int .i64 0) := (blk_cell BK667.out 2).trans rfl
                have hfs48 := blk_frozen BK667.out 2
                have hns48_0 := NB649_667.out
                have hns48_1 := NB650_667.out
                have hms48_0 := NB667_649.out
                have hms48_1 := NB667_650.out
                have hs49 : w44.cell? ⟨gb667, 3, none⟩ = some (.string (⟨#[]⟩ : ByteArray)) := (blk_cell BK667.out 3).trans rfl
                have hfs49 := blk_frozen BK667.out 3
                have hns49_0 := NB649_667.out
                have hns49_1 := NB650_667.out
                have hms49_0 := NB667_649.out
                have hms49_1 := NB667_650.out
                have hs50 : w44.cell? ⟨gb667, 4, none⟩ = some (.int .i64 0) := (blk_cell BK667.out 4).trans rfl
                have hfs50 := blk_frozen BK667.out 4
                have hns50_0 := NB649_667.out
                have hns50_1 := NB650_667.out
                have hms50_0 := NB667_649.out
                have hms50_1 := NB667_650.out
                refine skip_ (w1 := ?_) (by rfl) rfl ?_ ?_
                rotate_left
                · go_simp
                  rfl
                refine hK.out _ _ ⟨((cell_far (p := ⟨gb667, _, none⟩) NB649_667.out _).trans (((cell_far (p := ⟨gb667, _, none⟩) NB649_667.out _).trans (((cell_far (p := ⟨gb667, _, none⟩) NB649_667.out _).trans (((cell_far (p := ⟨gb667, _, none⟩) NB649_667.out _).trans (((cell_far (p := ⟨gb667, _, none⟩) NB649_667.out _).trans (hHeld.1)))))))))), ((cell_far (p := ⟨gb667, _, none⟩) NB649_667.out _).trans (((cell_far (p := ⟨gb667, _, none⟩) NB649_667.out _).trans (((cell_far (p := ⟨gb667, _, none⟩) NB649_667.out _).trans (((cell_far (p := ⟨gb667, _, none⟩) NB649_667.out _).trans (((cell_far (p := ⟨gb667, _, none⟩) NB649_667.out _).trans (hHeld.2.1)))))))))), ((cell_far (p := ⟨gb667, _, none⟩) (by first | exact Nat.ne_of_lt (Nat.lt_of_lt_of_le (by have := World.block_lt_of_cell? _ _ hw659_0; first | rwa [add_block] at this | exact this) GW667.out) | (rw [add_block]; exact Nat.ne_of_lt (Nat.lt_of_lt_of_le (by have := World.block_lt_of_cell? _ _ hw659_0; first | rwa [add_block] at this | exact this) GW667.out)) | (show (Addr.add _ _).block ≠ _; rw [add_block]; exact Nat.ne_of_lt (Nat.lt_of_lt_of_le (by have := World.block_lt_of_cell? _ _ hw659_0; first | rwa [add_block] at this | exact this) GW667.out)) | (dsimp only; exact Nat.ne_of_lt (Nat.lt_of_lt_of_le (by have := World.block_lt_of_cell? _ _ hw659_0; first | rwa [add_block] at this | exact this) GW667.out))) _).trans (((cell_far (p := ⟨gb667, _, none⟩) (by first | exact Nat.ne_of_lt (Nat.lt_of_lt_of_le (by have := World.block_lt_of_cell? _ _ hw659_0; first | rwa [add_block] at this | exact this) GW667.out) | (rw [add_block]; exact Nat.ne_of_lt (Nat.lt_of_lt_of_le (by have := World.block_lt_of_cell? _ _ hw659_0; first | rwa [add_block] at this | exact this) GW667.out)) | (show (Addr.add _ _).block ≠ _; rw [add_block]; exact Nat.ne_of_lt (Nat.lt_of_lt_of_le (by have := World.block_lt_of_cell? _ _ hw659_0; first | rwa [add_block] at this | exact this) GW667.out)) | (dsimp only; exact Nat.ne_of_lt (Nat.lt_of_lt_of_le (by have := World.block_lt_of_cell? _ _ hw659_0; first | rwa [add_block] at this | exact this) GW667.out))) _).trans (((cell_far (p := ⟨gb667, _, none⟩) (by first | exact Nat.ne_of_lt (Nat.lt_of_lt_of_le (by have := World.block_lt_of_cell? _ _ hw659_0; first | rwa [add_block] at this | exact this) GW667.out) | (rw [add_block]; exact Nat.ne_of_lt (Nat.lt_of_lt_of_le (by have := World.block_lt_of_cell? _ _ hw659_0; first | rwa [add_block] at this | exact this) GW667.out)) | (show (Addr.add _ _).block ≠ _; rw [add_block]; exact Nat.ne_of_lt (Nat.lt_of_lt_of_le (by have := World.block_lt_of_cell? _ _ hw659_0; first | rwa [add_block] at this | exact this) GW667.out)) | (dsimp only; exact Nat.ne_of_lt (Nat.lt_of_lt_of_le (by have := World.block_lt_of_cell? _ _ hw659_0; first | rwa [add_block] at this | exact this) GW667.out))) _).trans (((cell_far (p := ⟨gb667, _, none⟩) (by first | exact Nat.ne_of_lt (Nat.lt_of_lt_of_le (by have := World.block_lt_of_cell? _ _ hw659_0; first | rwa [add_block] at this | exact this) GW667.out) | (rw [add_block]; exact Nat.ne_of_lt (Nat.lt_of_lt_of_le (by have := World.block_lt_of_cell? _ _ hw659_0; first | rwa [add_block] at this | exact this) GW667.out)) | (show (Addr.add _ _).block ≠ _; rw [add_block]; exact Nat.ne_of_lt (Nat.lt_of_lt_of_le (by have := World.block_lt_of_cell? _ _ hw659_0; first | rwa [add_block] at this | exact this) GW667.out)) | (dsimp only; exact Nat.ne_of_lt (Nat.lt_of_lt_of_le (by have := World.block_lt_of_cell? _ _ hw659_0; first | rwa [add_block] at this | exact this) GW667.out))) _).trans (((cell_far (p := ⟨gb667, _, none⟩) (by first | exact Nat.ne_of_lt (Nat.lt_of_lt_of_le (by have := World.block_lt_of_cell? _ _ hw659_0; first | rwa [add_block] at this | exact this) GW667.out) | (rw [add_block]; exact Nat.ne_of_lt (Nat.lt_of_lt_of_le (by have := World.block_lt_of_cell? _ _ hw659_0; first | rwa [add_block] at this | exact this) GW667.out)) | (show (Addr.add _ _).block ≠ _; rw [add_block]; exact Nat.ne_of_lt (Nat.lt_of_lt_of_le (by have := World.block_lt_of_cell? _ _ hw659_0; first | rwa [add_block] at this | exact this) GW667.out)) | (dsimp only; exact Nat.ne_of_lt (Nat.lt_of_lt_of_le (by have := World.block_lt_of_cell? _ _ hw659_0; first | rwa [add_block] at this | exact this) GW667.out))) _).trans (hHeld.2.2.1)))))))))), ((cell_far (p := ⟨gb667, _, none⟩) (by first | exact Nat.ne_of_lt (Nat.lt_of_lt_of_le (by have := World.block_lt_of_cell? _ _ hw659_1; first | rwa [add_block] at this | exact this) GW667.out) | (rw [add_block]; exact Nat.ne_of_lt (Nat.lt_of_lt_of_le (by have := World.block_lt_of_cell? _ _ hw659_1; first | rwa [add_block] at this | exact this) GW667.out)) | (show (Addr.add _ _).block ≠ _; rw [add_block]; exact Nat.ne_of_lt (Nat.lt_of_lt_of_le (by have := World.block_lt_of_cell? _ _ hw659_1; first | rwa [add_block] at this | exact this) GW667.out)) | (dsimp only; exact Nat.ne_of_lt (Nat.lt_of_lt_of_le (by have := World.block_lt_of_cell? _ _ hw659_1; first | rwa [add_block] at this | exact this) GW667.out))) _).trans (((cell_far (p := ⟨gb667, _, none⟩) (by first | exact Nat.ne_of_lt (Nat.lt_of_lt_of_le (by have := World.block_lt_of_cell? _ _ hw659_1; first | rwa [add_block] at this | exact this) GW667.out) | (rw [add_block]; exact Nat.ne_of_lt (Nat.lt_of_lt_of_le (by have := World.block_lt_of_cell? _ _ hw659_1; first | rwa [add_block] at this | exact this) GW667.out)) | (show (Addr.add _ _).block ≠ _; rw [add_block]; exact Nat.ne_of_lt (Nat.lt_of_lt_of_le (by have := World.block_lt_of_cell? _ _ hw659_1; first | rwa [add_block] at this | exact this) GW667.out)) | (dsimp only; exact Nat.ne_of_lt (Nat.lt_of_lt_of_le (by have := World.block_lt_of_cell? _ _ hw659_1; first | rwa [add_block] at this | exact this) GW667.out))) _).trans (((cell_far (p := ⟨gb667, _, none⟩) (by first | exact Nat.ne_of_lt (Nat.lt_of_lt_of_le (by have := World.block_lt_of_cell? _ _ hw659_1; first | rwa [add_block] at this | exact this) GW667.out) | (rw [add_block]; exact Nat.ne_of_lt (Nat.lt_of_lt_of_le (by have := World.block_lt_of_cell? _ _ hw659_1; first | rwa [add_block] at this | exact this) GW667.out)) | (show (Addr.add _ _).block ≠ _; rw [add_block]; exact Nat.ne_of_lt (Nat.lt_of_lt_of_le (by have := World.block_lt_of_cell? _ _ hw659_1; first | rwa [add_block] at this | exact this) GW667.out)) | (dsimp only; exact Nat.ne_of_lt (Nat.lt_of_lt_of_le (by have := World.block_lt_of_cell? _ _ hw659_1; first | rwa [add_block] at this | exact this) GW667.out))) _).trans (((cell_far (p := ⟨gb667, _, none⟩) (by first | exact Nat.ne_of_lt (Nat.lt_of_lt_of_le (by have := World.block_lt_of_cell? _ _ hw659_1; first | rwa [add_block] at this | exact this) GW667.out) | (rw [add_block]; exact Nat.ne_of_lt (Nat.lt_of_lt_of_le (by have := World.block_lt_of_cell? _ _ hw659_1; first | rwa [add_block] at this | exact this) GW667.out)) | (show (Addr.add _ _).block ≠ _; rw [add_block]; exact Nat.ne_of_lt (Nat.lt_of_lt_of_le (by have := World.block_lt_of_cell? _ _ hw659_1; first | rwa [add_block] at this | exact this) GW667.out)) | (dsimp only; exact Nat.ne_of_lt (Nat.lt_of_lt_of_le (by have := World.block_lt_of_cell? _ _ hw659_1; first | rwa [add_block] at this | exact this) GW667.out))) _).trans (((cell_far (p := ⟨gb667, _, none⟩) (by first | exact Nat.ne_of_lt (Nat.lt_of_lt_of_le (by have := World.block_lt_of_cell? _ _ hw659_1; first | rwa [add_block] at this | exact this) GW667.out) | (rw [add_block]; exact Nat.ne_of_lt (Nat.lt_of_lt_of_le (by have := World.block_lt_of_cell? _ _ hw659_1; first | rwa [add_block] at this | exact this) GW667.out)) | (show (Addr.add _ _).block ≠ _; rw [add_block]; exact Nat.ne_of_lt (Nat.lt_of_lt_of_le (by have := World.block_lt_of_cell? _ _ hw659_1; first | rwa [add_block] at this | exact this) GW667.out)) | (dsimp only; exact Nat.ne_of_lt (Nat.lt_of_lt_of_le (by have := World.block_lt_of_cell? _ _ hw659_1; first | rwa [add_block] at this | exact this) GW667.out))) _).trans (hHeld.2.2.2.1)))))))))), ((cell_far (p := ⟨gb667, _, none⟩) (by first | exact Nat.ne_of_lt (Nat.lt_of_lt_of_le (by have := World.block_lt_of_cell? _ _ hw659_2; first | rwa [add_block] at this | exact this) GW667.out) | (rw [add_block]; exact Nat.ne_of_lt (Nat.lt_of_lt_of_le (by have := World.block_lt_of_cell? _ _ hw659_2; first | rwa [add_block] at this | exact this) GW667.out)) | (show (Addr.add _ _).block ≠ _; rw [add_block]; exact Nat.ne_of_lt (Nat.lt_of_lt_of_le (by have := World.block_lt_of_cell? _ _ hw659_2; first | rwa [add_block] at this | exact this) GW667.out)) | (dsimp only; exact Nat.ne_of_lt (Nat.lt_of_lt_of_le (by have := World.block_lt_of_cell? _ _ hw659_2; first | rwa [add_block] at this | exact this) GW667.out))) _).trans (((cell_far (p := ⟨gb667, _, none⟩) (by first | exact Nat.ne_of_lt (Nat.lt_of_lt_of_le (by have := World.block_lt_of_cell? _ _ hw659_2; first | rwa [add_block] at this | exact this) GW667.out) | (rw [add_block]; exact Nat.ne_of_lt (Nat.lt_of_lt_of_le (by have := World.block_lt_of_cell? _ _ hw659_2; first | rwa [add_block] at this | exact this) GW667.out)) | (show (Addr.add _ _).block ≠ _; rw [add_block]; exact Nat.ne_of_lt (Nat.lt_of_lt_of_le (by have := World.block_lt_of_cell? _ _ hw659_2; first | rwa [add_block] at this | exact this) GW667.out)) | (dsimp only; exact Nat.ne_of_lt (Nat.lt_of_lt_of_le (by have := World.block_lt_of_cell? _ _ hw659_2; first | rwa [add_block] at this | exact this) GW667.out))) _).trans (((cell_far (p := ⟨gb667, _, none⟩) (by first | exact Nat.ne_of_lt (Nat.lt_of_lt_of_le (by have := World.block_lt_of_cell? _ _ hw659_2; first | rwa [add_block] at this | exact this) GW667.out) | (rw [add_block]; exact Nat.ne_of_lt (Nat.lt_of_lt_of_le (by have := World.block_lt_of_cell? _ _ hw659_2; first | rwa [add_block] at this | exact this) GW667.out)) | (show (Addr.add _ _).block ≠ _; rw [add_block]; exact Nat.ne_of_lt (Nat.lt_of_lt_of_le (by have := World.block_lt_of_cell? _ _ hw659_2; first | rwa [add_block] at this | exact this) GW667.out)) | (dsimp only; exact Nat.ne_of_lt (Nat.lt_of_lt_of_le (by have := World.block_lt_of_cell? _ _ hw659_2; first | rwa [add_block] at this | exact this) GW667.out))) _).trans (((cell_far (p := ⟨gb667, _, none⟩) (by first | exact Nat.ne_of_lt (Nat.lt_of_lt_of_le (by have := World.block_lt_of_cell? _ _ hw659_2; first | rwa [add_block] at this | exact this) GW667.out) | (rw [add_block]; exact Nat.ne_of_lt (Nat.lt_of_lt_of_le (by have := World.block_lt_of_cell? _ _ hw659_2; first | rwa [add_block] at this | exact this) GW667.out)) | (show (Addr.add _ _).block ≠ _; rw [add_block]; exact Nat.ne_of_lt (Nat.lt_of_lt_of_le (by have := World.block_lt_of_cell? _ _ hw659_2; first | rwa [add_block] at this | exact this) GW667.out)) | (dsimp only; exact Nat.ne_of_lt (Nat.lt_of_lt_of_le (by have := World.block_lt_of_cell? _ _ hw659_2; first | rwa [add_block] at this | exact this) GW667.out))) _).trans (((cell_far (p := ⟨gb667, _, none⟩) (by first | exact Nat.ne_of_lt (Nat.lt_of_lt_of_le (by have := World.block_lt_of_cell? _ _ hw659_2; first | rwa [add_block] at this | exact this) GW667.out) | (rw [add_block]; exact Nat.ne_of_lt (Nat.lt_of_lt_of_le (by have := World.block_lt_of_cell? _ _ hw659_2; first | rwa [add_block] at this | exact this) GW667.out)) | (show (Addr.add _ _).block ≠ _; rw [add_block]; exact Nat.ne_of_lt (Nat.lt_of_lt_of_le (by have := World.block_lt_of_cell? _ _ hw659_2; first | rwa [add_block] at this | exact this) GW667.out)) | (dsimp only; exact Nat.ne_of_lt (Nat.lt_of_lt_of_le (by have := World.block_lt_of_cell? _ _ hw659_2; first | rwa [add_block] at this | exact this) GW667.out))) _).trans (hHeld.2.2.2.2.1)))))))))), ((cell_far (p := ⟨gb667, _, none⟩) (by first | exact Nat.ne_of_lt (Nat.lt_of_lt_of_le (by have := World.block_lt_of_cell? _ _ hw659_3; first | rwa [add_block] at this | exact this) GW667.out) | (rw [add_block]; exact Nat.ne_of_lt (Nat.lt_of_lt_of_le (by have := World.block_lt_of_cell? _ _ hw659_3; first | rwa [add_block] at this | exact this) GW667.out)) | (show (Addr.add _ _).block ≠ _; rw [add_block]; exact Nat.ne_of_lt (Nat.lt_of_lt_of_le (by have := World.block_lt_of_cell? _ _ hw659_3; first | rwa [add_block] at this | exact this) GW667.out)) | (dsimp only; exact Nat.ne_of_lt (Nat.lt_of_lt_of_le (by have := World.block_lt_of_cell? _ _ hw659_3; first | rwa [add_block] at this | exact this) GW667.out))) _).trans (((cell_far (p := ⟨gb667, _, none⟩) (by first | exact Nat.ne_of_lt (Nat.lt_of_lt_of_le (by have := World.block_lt_of_cell? _ _ hw659_3; first | rwa [add_block] at this | exact this) GW667.out) | (rw [add_block]; exact Nat.ne_of_lt (Nat.lt_of_lt_of_le (by have := World.block_lt_of_cell? _ _ hw659_3; first | rwa [add_block] at this | exact this) GW667.out)) | (show (Addr.add _ _).block ≠ _; rw [add_block]; exact Nat.ne_of_lt (Nat.lt_of_lt_of_le (by have := World.block_lt_of_cell? _ _ hw659_3; first | rwa [add_block] at this | exact this) GW667.out)) | (dsimp only; exact Nat.ne_of_lt (Nat.lt_of_lt_of_le (by have := World.block_lt_of_cell? _ _ hw659_3; first | rwa [add_block] at this | exact this) GW667.out))) _).trans (((cell_far (p := ⟨gb667, _, none⟩) (by first | exact Nat.ne_of_lt (Nat.lt_of_lt_of_le (by have := World.block_lt_of_cell? _ _ hw659_3; first | rwa [add_block] at this | exact this) GW667.out) | (rw [add_block]; exact Nat.ne_of_lt (Nat.lt_of_lt_of_le (by have := World.block_lt_of_cell? _ _ hw659_3; first | rwa [add_block] at this | exact this) GW667.out)) | (show (Addr.add _ _).block ≠ _; rw [add_block]; exact Nat.ne_of_lt (Nat.lt_of_lt_of_le (by have := World.block_lt_of_cell? _ _ hw659_3; first | rwa [add_block] at this | exact this) GW667.out)) | (dsimp only; exact Nat.ne_of_lt (Nat.lt_of_lt_of_le (by have := World.block_lt_of_cell? _ _ hw659_3; first | rwa [add_block] at this | exact this) GW667.out))) _).trans (((cell_far (p := ⟨gb667, _, none⟩) (by first | exact Nat.ne_of_lt (Nat.lt_of_lt_of_le (by have := World.block_lt_of_cell? _ _ hw659_3; first | rwa [add_block] at this | exact this) GW667.out) | (rw [add_block]; exact Nat.ne_of_lt (Nat.lt_of_lt_of_le (by have := World.block_lt_of_cell? _ _ hw659_3; first | rwa [add_block] at this | exact this) GW667.out)) | (show (Addr.add _ _).block ≠ _; rw [add_block]; exact Nat.ne_of_lt (Nat.lt_of_lt_of_le (by have := World.block_lt_of_cell? _ _ hw659_3; first | rwa [add_block] at this | exact this) GW667.out)) | (dsimp only; exact Nat.ne_of_lt (Nat.lt_of_lt_of_le (by have := World.block_lt_of_cell? _ _ hw659_3; first | rwa [add_block] at this | exact this) GW667.out))) _).trans (((cell_far (p := ⟨gb667, _, none⟩) (by first | exact Nat.ne_of_lt (Nat.lt_of_lt_of_le (by have := World.block_lt_of_cell? _ _ hw659_3; first | rwa [add_block] at this | exact this) GW667.out) | (rw [add_block]; exact Nat.ne_of_lt (Nat.lt_of_lt_of_le (by have := World.block_lt_of_cell? _ _ hw659_3; first | rwa [add_block] at this | exact this) GW667.out)) | (show (Addr.add _ _).block ≠ _; rw [add_block]; exact Nat.ne_of_lt (Nat.lt_of_lt_of_le (by have := World.block_lt_of_cell? _ _ hw659_3; first | rwa [add_block] at this | exact this) GW667.out)) | (dsimp only; exact Nat.ne_of_lt (Nat.lt_of_lt_of_le (by have := World.block_lt_of_cell? _ _ hw659_3; first | rwa [add_block] at this | exact this) GW667.out))) _).trans (hHeld.2.2.2.2.2.1)))))))))), ((cell_far (p := ⟨gb667, _, none⟩) (by first | exact Nat.ne_of_lt (Nat.lt_of_lt_of_le (by have := World.block_lt_of_cell? _ _ hw659_4; first | rwa [add_block] at this | exact this) GW667.out) | (rw [add_block]; exact Nat.ne_of_lt (Nat.lt_of_lt_of_le (by have := World.block_lt_of_cell? _ _ hw659_4; first | rwa [add_block] at this | exact this) GW667.out)) | (show (Addr.add _ _).block ≠ _; rw [add_block]; exact Nat.ne_of_lt (Nat.lt_of_lt_of_le (by have := World.block_lt_of_cell? _ _ hw659_4; first | rwa [add_block] at this | exact this) GW667.out)) | (dsimp only; exact Nat.ne_of_lt (Nat.lt_of_lt_of_le (by have := World.block_lt_of_cell? _ _ hw659_4; first | rwa [add_block] at this | exact this) GW667.out))) _).trans (((cell_far (p := ⟨gb667, _, none⟩) (by first | exact Nat.ne_of_lt (Nat.lt_of_lt_of_le (by have := World.block_lt_of_cell? _ _ hw659_4; first | rwa [add_block] at this | exact this) GW667.out) | (rw [add_block]; exact Nat.ne_of_lt (Nat.lt_of_lt_of_le (by have := World.block_lt_of_cell? _ _ hw659_4; first | rwa [add_block] at this | exact this) GW667.out)) | (show (Addr.add _ _).block ≠ _; rw [add_block]; exact Nat.ne_of_lt (Nat.lt_of_lt_of_le (by have := World.block_lt_of_cell? _ _ hw659_4; first | rwa [add_block] at this | exact this) GW667.out)) | (dsimp only; exact Nat.ne_of_lt (Nat.lt_of_lt_of_le (by have := World.block_lt_of_cell? _ _ hw659_4; first | rwa [add_block] at this | exact this) GW667.out))) _).trans (((cell_far (p := ⟨gb667, _, none⟩) (by first | exact Nat.ne_of_lt (Nat.lt_of_lt_of_le (by have := World.block_lt_of_cell? _ _ hw659_4; first | rwa [add_block] at this | exact this) GW667.out) | (rw [add_block]; exact Nat.ne_of_lt (Nat.lt_of_lt_of_le (by have := World.block_lt_of_cell? _ _ hw659_4; first | rwa [add_block] at this | exact this) GW667.out)) | (show (Addr.add _ _).block ≠ _; rw [add_block]; exact Nat.ne_of_lt (Nat.lt_of_lt_of_le (by have := World.block_lt_of_cell? _ _ hw659_4; first | rwa [add_block] at this | exact this) GW667.out)) | (dsimp only; exact Nat.ne_of_lt (Nat.lt_of_lt_of_le (by have := World.block_lt_of_cell? _ _ hw659_4; first | rwa [add_block] at this | exact this) GW667.out))) _).trans (((cell_far (p := ⟨gb667, _, none⟩) (by first | exact Nat.ne_of_lt (Nat.lt_of_lt_of_le (by have := World.block_lt_of_cell? _ _ hw659_4; first | rwa [add_block] at this | exact this) GW667.out) | (rw [add_block]; exact Nat.ne_of_lt (Nat.lt_of_lt_of_le (by have := World.block_lt_of_cell? _ _ hw659_4; first | rwa [add_block] at this | exact this) GW667.out)) | (show (Addr.add _ _).block ≠ _; rw [add_block]; exact Nat.ne_of_lt (Nat.lt_of_lt_of_le (by have := World.block_lt_of_cell? _ _ hw659_4; first | rwa [add_block] at this | exact this) GW667.out)) | (dsimp only; exact Nat.ne_of_lt (Nat.lt_of_lt_of_le (by have := World.block_lt_of_cell? _ _ hw659_4; first | rwa [add_block] at this | exact this) GW667.out))) _).trans (((cell_far (p := ⟨gb667, _, none⟩) (by first | exact Nat.ne_of_lt (Nat.lt_of_lt_of_le (by have := World.block_lt_of_cell? _ _ hw659_4; first | rwa [add_block] at this | exact this) GW667.out) | (rw [add_block]; exact Nat.ne_of_lt (Nat.lt_of_lt_of_le (by have := World.block_lt_of_cell? _ _ hw659_4; first | rwa [add_block] at this | exact this) GW667.out)) | (show (Addr.add _ _).block ≠ _; rw [add_block]; exact Nat.ne_of_lt (Nat.lt_of_lt_of_le (by have := World.block_lt_of_cell? _ _ hw659_4; first | rwa [add_block] at this | exact this) GW667.out)) | (dsimp only; exact Nat.ne_of_lt (Nat.lt_of_lt_of_le (by have := World.block_lt_of_cell? _ _ hw659_4; first | rwa [add_block] at this | exact this) GW667.out))) _).trans (hHeld.2.2.2.2.2.2))))))))))⟩ (fun hHeld => ?_)
                clear hK K
                refine done_ (done_of HT_.out (by kernel_rfl)) ?_
                have hnb51 := NB667_649.out
                have hnc51 := NB649_667.out
                have hnb52 := NB667_650.out
                have hnc52 := NB650_667.out
                have hcz53_0 := cz_ BK667 0 (.slice none 0 0)
                have hcz53_1 := cz_ BK667 1 (.int .i64 0)
                have hcz53_2 := cz_ BK667 2 (.int .i64 0)
                have hcz53_3 := cz_ BK667 3 (.string (⟨#[]⟩ : ByteArray))
                have hcz53_4 := cz_ BK667 4 (.int .i64 0)
                have hfz53_0 := blk_frozen BK667.out 0
                have hfz53_1 := blk_frozen BK667.out 1
                have hfz53_2 := blk_frozen BK667.out 2
                have hfz53_3 := blk_frozen BK667.out 3
                have hfz53_4 := blk_frozen BK667.out 4
                have hnb54 := NB650_649.out
                have hnc54 := NB649_650.out
                have hcz55_0 := cz_ BK650 0 (.slice none 0 0)
                have hcz55_1 := cz_ BK650 1 (.int .i64 x651001_1)
                have hcz55_2 := cz_ BK650 2 (.int .i64 x651002_1)
                have hcz55_3 := cz_ BK650 3 (.string x651003_1)
                have hcz55_4 := cz_ BK650 4 (.int .i64 x651004_1)
                have hfz55_0 := blk_frozen BK650.out 0
                have hfz55_1 := blk_frozen BK650.out 1
                have hfz55_2 := blk_frozen BK650.out 2
                have hfz55_3 := blk_frozen BK650.out 3
                have hfz55_4 := blk_frozen BK650.out 4
                try go_wp2
                refine bodyPost_ret (results_cell_row rfl _ _ gb650 34 #[.slice none 0 0, .int .i64 0, .int .i64 x6_1, .string (⟨#[]⟩ : ByteArray), .int .i64 t666] (0, 0) _ rfl (by (with_reducible repeat (first | refine blk_drewN ?_ _ | refine blk_drew ?_ | refine blk_alloc ?_ _)); refine blk_put (cs := #[.slice none 0 0, .int .i64 0, .int .i64 x6_1, .string (⟨#[]⟩ : ByteArray), .int .i64 x651004_1]) ?_ 4 _ rfl; (with_reducible repeat (first | refine blk_drewN ?_ _ | refine blk_drew ?_ | refine blk_alloc ?_ _)); refine blk_put (cs := #[.slice none 0 0, .int .i64 0, .int .i64 x6_1, .string x651003_1, .int .i64 x651004_1]) ?_ 3 _ rfl; (with_reducible repeat (first | refine blk_drewN ?_ _ | refine blk_drew ?_ | refine blk_alloc ?_ _)); refine blk_put (cs := #[.slice none 0 0, .int .i64 0, .int .i64 x651002_1, .string x651003_1, .int .i64 x651004_1]) ?_ 2 _ rfl; (with_reducible repeat (first | refine blk_drewN ?_ _ | refine blk_drew ?_ | refine blk_alloc ?_ _)); refine blk_put (cs := #[.slice none 0 0, .int .i64 x651001_1, .int .i64 x651002_1, .string x651003_1, .int .i64 x651004_1]) ?_ 1 _ rfl; (with_reducible repeat (first | refine blk_drewN ?_ _ | refine blk_drew ?_ | refine blk_alloc ?_ _)); refine blk_put (cs := #[.slice none 0 0, .int .i64 x651001_1, .int .i64 x651002_1, .string x651003_1, .int .i64 x651004_1]) ?_ 0 _ rfl; (with_reducible repeat (first | refine blk_drewN ?_ _ | refine blk_drew ?_ | refine blk_alloc ?_ _)); refine blk_far ?_ NB650_667.out _; (with_reducible repeat (first | refine blk_drewN ?_ _ | refine blk_drew ?_ | refine blk_alloc ?_ _)); refine blk_far ?_ NB650_667.out _; (with_reducible repeat (first | refine blk_drewN ?_ _ | refine blk_drew ?_ | refine blk_alloc ?_ _)); refine blk_far ?_ NB650_667.out _; (with_reducible repeat (first | refine blk_drewN ?_ _ | refine blk_drew ?_ | refine blk_alloc ?_ _)); refine blk_far ?_ NB650_667.out _; (with_reducible repeat (first | refine blk_drewN ?_ _ | refine blk_drew ?_ | refine blk_alloc ?_ _)); refine blk_far ?_ NB650_667.out _; (with_reducible repeat (first | refine blk_drewN ?_ _ | refine blk_drew ?_ | refine blk_alloc ?_ _)); exact BK650.out) Try.underlying34 rfl (by kernel_rfl)) rfl ?_
                exact ⟨_, er_, by first | exact Kd.R_nil _ _ _ _ _ | exact Kd.N_nil _ _ _ _ _ | exact Kd.V_nil _ _ _ _ _ | exact Kd.Q_nil _ _ _ _ _ | exact Kd.S_nil _ _ _ _ _, pb_ HB⟩
            · rw [if_neg c21] at H
              exact absurd H (by simp)
          · rw [if_neg c20] at H
            have c20b0 : decide (x6_1 < (l1.length : Int)) = false := decide_eq_false c20
            clear c20
            replace H := Option.bind_eq_some_iff.mp H
            obtain ⟨⟨t668, t671⟩, A560, H⟩ := H
            replace H : (some (t668, t671, (l1.length : Int), (⟨#[]⟩ : ByteArray), 0)) = some (r1, r2, r3, r4, r5) := H
            have A56 := Aside0.mk A560
            clear A560
            simp only [Option.some.injEq, Prod.mk.injEq] at H
            obtain ⟨rfl, rfl, rfl, rfl, rfl⟩ := H
            have hnb57 := NB649_650.out
            have hnc57 := NB650_649.out
            have hcz58_0 := cz_ BK649 0 (u650000)
            have hcz58_1 := cz_ BK649 1 (.int .i64 x650001_1)
            have hfz58_0 := blk_frozen BK649.out 0
            have hfz58_1 := blk_frozen BK649.out 1
            obtain ⟨Ao59, co59, eo59⟩ := Kd.V_slice HO_650000.out
            subst eo59
            go_wp2_with (first | ((with_reducible refine gate_callee (f := 13) rfl ?_); refine goesL_ (some 40) rfl rfl Try.func13 (by kernel_rfl) rfl #[.agg #[.slice Ao59 x650000_1.length co59, .int .i64 x650001_1]] rfl (by (try simp only [List.map_toArray, List.map_cons, List.map_nil]); first | done | rfl | (simp only [List.length_drop, List.length_take]; rfl)) ?_; (with_reducible refine (midrangeref04_Own.calls _ _ x650000_1 x650001_1 t668 t671 _ ?side1 ?side2 A56.out).mono ?_); (case side1 => exact pc_ (Kd.V_reads' HO_650000.out).2.2); (case side2 => exact (Kd.V_reads' HO_650000.out).2.1); rintro e w60 ⟨v669, rfl, ho0, hb⟩; refine ⟨_, rfl, ?_⟩; replace HO_650000 := Aside0.mk (Kd.V_elder' (by (with_reducible repeat (first | apply Kd.V_alloc | apply Kd.V_drewN | apply Kd.V_drew)); exact HO_650000.out) (Kd.R_base ho0) hb); have HO670 := Aside0.mk (Kd.R_lower (Kd.R_newM (M := fun k_ => (w.heap.size ≤ k_)) ho0 (below_size (pb_ HB)) (fun k_ h_ => h_)) (below_size (pb_ HB))); replace BK649 := kb_ BK649 hb; replace BK650 := kb_ BK650 hb; replace HB := sb_ HB hb; (try clear hb); (try clear hb2); (try clear hk); (try clear hi); (try clear ho0); obtain ⟨Ao61, co61, eo61⟩ := Kd.R_slice HO670.out; subst eo61; have hcz62_0 := cz_ BK650 0 (.slice none 0 0); have hcz62_1 := cz_ BK650 1 (.int .i64 x651001_1); have hcz62_2 := cz_ BK650 2 (.int .i64 x651002_1); have hcz62_3 := cz_ BK650 3 (.string x651003_1); have hcz62_4 := cz_ BK650 4 (.int .i64 x651004_1); have hfz62_0 := blk_frozen BK650.out 0; have hfz62_1 := blk_frozen BK650.out 1; have hfz62_2 := blk_frozen BK650.out 2; have hfz62_3 := blk_frozen BK650.out 3; have hfz62_4 := blk_frozen BK650.out 4))
            refine bodyPost_ret (results_cell_row rfl _ _ gb650 34 #[.slice Ao61 t668.length co61, .int .i64 t671, .int .i64 (l1.length : Int), .string (⟨#[]⟩ : ByteArray), .int .i64 0] (0, 0) _ rfl (by (with_reducible repeat (first | refine blk_drewN ?_ _ | refine blk_drew ?_ | refine blk_alloc ?_ _)); refine blk_put (cs := #[.slice Ao61 t668.length co61, .int .i64 t671, .int .i64 (l1.length : Int), .string (⟨#[]⟩ : ByteArray), .int .i64 x651004_1]) ?_ 4 _ rfl; (with_reducible repeat (first | refine blk_drewN ?_ _ | refine blk_drew ?_ | refine blk_alloc ?_ _)); refine blk_put (cs := #[.slice Ao61 t668.length co61, .int .i64 t671, .int .i64 (l1.length : Int), .string x651003_1, .int .i64 x651004_1]) ?_ 3 _ rfl; (with_reducible repeat (first | refine blk_drewN ?_ _ | refine blk_drew ?_ | refine blk_alloc ?_ _)); refine blk_put (cs := #[.slice Ao61 t668.length co61, .int .i64 t671, .int .i64 x651002_1, .string x651003_1, .int .i64 x651004_1]) ?_ 2 _ rfl; (with_reducible repeat (first | refine blk_drewN ?_ _ | refine blk_drew ?_ | refine blk_alloc ?_ _)); refine blk_put (cs := #[.slice Ao61 t668.length co61, .int .i64 x651001_1, .int .i64 x651002_1, .string x651003_1, .int .i64 x651004_1]) ?_ 1 _ rfl; (with_reducible repeat (first | refine blk_drewN ?_ _ | refine blk_drew ?_ | refine blk_alloc ?_ _)); refine blk_put (cs := #[.slice none 0 0, .int .i64 x651001_1, .int .i64 x651002_1, .string x651003_1, .int .i64 x651004_1]) ?_ 0 _ rfl; (with_reducible repeat (first | refine blk_drewN ?_ _ | refine blk_drew ?_ | refine blk_alloc ?_ _)); exact BK650.out) Try.underlying34 rfl (by kernel_rfl)) rfl ?_
            exact ⟨_, er_, by (with_reducible repeat (first | apply Kd.R_alloc | apply Kd.R_drewN | apply Kd.R_drew)); exact Kd.R_mono (Kd.R_far (p := ⟨gb650, 4, none⟩) (Kd.R_far (p := ⟨gb650, 3, none⟩) (Kd.R_far (p := ⟨gb650, 2, none⟩) (Kd.R_far (p := ⟨gb650, 1, none⟩) (Kd.R_far (p := ⟨gb650, 0, none⟩) (Kd.R_types HO670.out BK650.out (by decide)) (fun _ hk => hk.2) (.slice Ao61 t668.length co61)) (fun _ hk => hk.2) (.int .i64 t671)) (fun _ hk => hk.2) (.int .i64 (l1.length : Int))) (fun _ hk => hk.2) (.string (⟨#[]⟩ : ByteArray))) (fun _ hk => hk.2) (.int .i64 0)) (fun _ hk => hk.1.1), pb_ HB⟩
  · rw [if_neg c4] at H
    have c4b0 : (t651 == 0) = false := beq_eq_false_iff_ne.mpr c4
    have c4b1 : (t651 != 0) = true := bne_iff_ne.mpr c4
    simp only [Option.some.injEq, Prod.mk.injEq] at H
    obtain ⟨rfl, rfl, rfl, rfl, rfl⟩ := H
    go_enter Try.func34, Try.ntmps34
    go_wp2_with (first | ((with_reducible refine gate_dst (N := 2) rfl ?_); refine box_event ?hg (N := 2) ?hd (cs := #[.slice A0_0 l0_0.length c0_0, .int .i64 a0_1]) (t := 24) ?hr ?_; (case hd => rfl); (case hg => rfl); (case hr => first | (go_simp; done) | (go_simp; rfl)); intro gb649 hg w63 hbox hb; replace HO0_0 := Aside0.mk (Kd.V_below (Kd.V_elderB (by (with_reducible repeat (first | apply Kd.V_alloc | apply Kd.V_drewN | apply Kd.V_drew)); exact HO0_0.out) gb649 (Nat.le_of_eq hg.symm)) hb); have BK649 := Aside0.mk (hbox); have GW649 := gw_ hg HB; have GE649 := gw_ hg HB; replace HB := sb_ HB hb; clear hb hbox hg) | ((with_reducible refine gate_dst (N := 4) rfl ?_); refine box_event ?hg (N := 4) ?hd (cs := #[.slice none 0 0, .int .i64 0, .int .i64 0, .string (⟨#[]⟩ : ByteArray), .int .i64 0]) (t := 34) ?hr ?_; (case hd => rfl); (case hg => rfl); (case hr => first | (go_simp; done) | (go_simp; rfl)); intro gb650 hg w64 hbox hb; replace HO0_0 := Aside0.mk (Kd.V_below (Kd.V_elderB (by (with_reducible repeat (first | apply Kd.V_alloc | apply Kd.V_drewN | apply Kd.V_drew)); exact HO0_0.out) gb650 (Nat.le_of_eq hg.symm)) hb); have BK650 := Aside0.mk (hbox); have GW650 := gw_ hg HB; have GE650 := gw_ hg HB; replace HB := sb_ HB hb; have NB649_650 := nl_ hg BK649; have NB650_649 := ng_ hg BK649; replace BK649 := kb_ BK649 hb; clear hb hbox hg; have hnb65 := NB649_650.out; have hnc65 := NB650_649.out; have hcz66_0 := cz_ BK649 0 (.slice A0_0 l0_0.length c0_0); have hcz66_1 := cz_ BK649 1 (.int .i64 a0_1); have hfz66_0 := blk_frozen BK649.out 0; have hfz66_1 := blk_frozen BK649.out 1) | ((with_reducible refine gate_callee (f := 35) rfl ?_); refine goesL_ (some 9) rfl rfl Try.func35 (by kernel_rfl) rfl #[.agg #[.slice A0_0 l0_0.length c0_0, .int .i64 a0_1]] rfl (by (try simp only [List.map_toArray, List.map_cons, List.map_nil]); first | done | rfl | (simp only [List.length_drop, List.length_take]; rfl)) ?_; (with_reducible refine (midrangeref04_Err.calls k _ _ l0_0 a0_1 t651 _ ?side1 ?side2 A3.out).mono ?_); (case side1 => exact pc_ (Kd.V_reads' HO0_0.out).2.2); (case side2 => exact (Kd.V_reads' HO0_0.out).2.1); rintro e w67 ⟨rfl, hb⟩; refine ⟨_, rfl, ?_⟩; replace HO0_0 := Aside0.mk (Kd.V_below (by (with_reducible repeat (first | apply Kd.V_alloc | apply Kd.V_drewN | apply Kd.V_drew)); exact HO0_0.out) hb); replace BK649 := kb_ BK649 hb; replace BK650 := kb_ BK650 hb; replace HB := sb_ HB hb; (try clear hb); (try clear hb2); (try clear hk); (try clear hi); have hcz68_0 := cz_ BK650 0 (.slice none 0 0); have hcz68_1 := cz_ BK650 1 (.int .i64 0); have hcz68_2 := cz_ BK650 2 (.int .i64 0); have hcz68_3 := cz_ BK650 3 (.string (⟨#[]⟩ : ByteArray)); have hcz68_4 := cz_ BK650 4 (.int .i64 0); have hfz68_0 := blk_frozen BK650.out 0; have hfz68_1 := blk_frozen BK650.out 1; have hfz68_2 := blk_frozen BK650.out 2; have hfz68_3 := blk_frozen BK650.out 3; have hfz68_4 := blk_frozen BK650.out 4))
    refine bodyPost_ret (results_cell_row rfl _ _ gb650 34 #[.slice none 0 0, .int .i64 0, .int .i64 0, .string (⟨#[]⟩ : ByteArray), .int .i64 t651] (0, 0) _ rfl (by (with_reducible repeat (first | refine blk_drewN ?_ _ | refine blk_drew ?_ | refine blk_alloc ?_ _)); refine blk_put (cs := #[.slice none 0 0, .int .i64 0, .int .i64 0, .string (⟨#[]⟩ : ByteArray), .int .i64 0]) ?_ 4 _ rfl; (with_reducible repeat (first | refine blk_drewN ?_ _ | refine blk_drew ?_ | refine blk_alloc ?_ _)); refine blk_put (cs := #[.slice none 0 0, .int .i64 0, .int .i64 0, .string (⟨#[]⟩ : ByteArray), .int .i64 0]) ?_ 3 _ rfl; (with_reducible repeat (first | refine blk_drewN ?_ _ | refine blk_drew ?_ | refine blk_alloc ?_ _)); refine blk_put (cs := #[.slice none 0 0, .int .i64 0, .int .i64 0, .string (⟨#[]⟩ : ByteArray), .int .i64 0]) ?_ 2 _ rfl; (with_reducible repeat (first | refine blk_drewN ?_ _ | refine blk_drew ?_ | refine blk_alloc ?_ _)); refine blk_put (cs := #[.slice none 0 0, .int .i64 0, .int .i64 0, .string (⟨#[]⟩ : ByteArray), .int .i64 0]) ?_ 1 _ rfl; (with_reducible repeat (first | refine blk_drewN ?_ _ | refine blk_drew ?_ | refine blk_alloc ?_ _)); refine blk_put (cs := #[.slice none 0 0, .int .i64 0, .int .i64 0, .string (⟨#[]⟩ : ByteArray), .int .i64 0]) ?_ 0 _ rfl; (with_reducible repeat (first | refine blk_drewN ?_ _ | refine blk_drew ?_ | refine blk_alloc ?_ _)); exact BK650.out) Try.underlying34 rfl (by kernel_rfl)) rfl ?_
    exact ⟨_, er_, by first | exact Kd.R_nil _ _ _ _ _ | exact Kd.N_nil _ _ _ _ _ | exact Kd.V_nil _ _ _ _ _ | exact Kd.Q_nil _ _ _ _ _ | exact Kd.S_nil _ _ _ _ _, pb_ HB⟩

end Go.Proofs.Ytoabahlaicgmjaa.X
end
