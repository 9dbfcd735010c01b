-- Texts of this claim joined by merge.py, a program of its author; what this claim does not reach is left out.
import Derived.Test.YtoabahlaicgmjaaDoorMSegmentUndone2
section
namespace Go.Proofs.YtoabahlaicgmjaaDoor.X
open Go.Proofs.YtoabahlaicgmjaaDoor.XW Go.Proofs.YtoabahlaicgmjaaDoor.XS
open Go.RowKit Go.Proofs.YtoabahlaicgmjaaDoorW.PrintWords Go.Proofs.YtoabahlaicgmjaaDoorW.PrintLast Go.Proofs.YtoabahlaicgmjaaDoorW.PrintMore
attribute [local go_sem] max2_int min2_int max_two min_two max_three min_three max_four min_four   -- for this text's walks alone
set_option linter.unusedVariables false
set_option linter.unusedSimpArgs false
def segment_Destroyed.f (k : Nat) (l0_0 : List (S46)) (a0_1 : Int) (a1 : Int) : Option ((List (S46)) × Int × Int) := (segment_find.f k l0_0 a0_1 a1).bind fun bt137 => (if bt137.2 = 0 then ((api_Segment_23.f l0_0).bind fun t139 => ((api_Segment_27.f t139 bt137.1 (wrap64 (bt137.1 + 1))).bind fun t142 => (some (t142, a0_1, 0)))) else (some (([] : List (S46)), 0, bt137.2)))
theorem segment_Destroyed.mono : ∀ a0 a1 a2 k, LeO (segment_Destroyed.f k a0 a1 a2) (segment_Destroyed.f (k + 1) a0 a1 a2) := by
 intro a0 a1 a2 k
 unfold segment_Destroyed.f
 repeat' first
  | (with_reducible exact segment_find.mono _ _ _ _)
  | (with_reducible exact LeO.refl _)
  | (with_reducible exact LeO.none _)
  | (with_reducible refine LeO.ite ?_ ?_)
  | (with_reducible refine LeO.bind ?_ (fun _ => ?_))
  | exact segment_find.mono _ _ _ _
  | exact LeO.none _
  | refine LeO.ite ?_ ?_
  | refine LeO.bind ?_ (fun _ => ?_)
def segment_Destroyed.T4 : Bool × List (List Nat × List Nat) := (true, [([], []), ([0], [0]), ([1], [1]), ([], []), ([], []), ([4], [4]), ([2, 3, 5, 2], [2, 3, 5]), ([], []), ([7], [7]), ([6, 8], [6, 8]), ([9, 6, 0, 1, 2, 3, 4, 5, 6, 7, 8, 9], [9]), ([10, 0, 1, 2, 3, 4, 5, 6, 7, 8, 9, 10], [])])
def segment_Destroyed.B4 : List Nat := [0, 1, 3, 0, 0, 16, 63, 0, 128, 511, 1023, 2047]
theorem segment_Destroyed.tab4 : rtab .any (opsOf Tryd.f15 4) = segment_Destroyed.T4 := by kernel_rfl
theorem segment_Destroyed.bits4 : waitsOk segment_Destroyed.T4.2 segment_Destroyed.B4 = true := by kernel_rfl
set_option maxHeartbeats 8000000 in
set_option maxRecDepth 100000 in
theorem segment_Destroyed.calls (k : Nat) (A0_0 : Option Addr) (c0_0 : Nat) (l0_0 : List (S46)) (a0_1 : Int) (a1 : Int) (r1 : List (S46)) (r2 : Int) (r3 : Int) (w : World) (hr0_0 : Kd.C k46 w A0_0 l0_0.length l0_0) (hc0_0 : l0_0.length ≤ c0_0) (h : segment_Destroyed.f k l0_0 a0_1 a1 = some (r1, r2, r3)) :
  Calls Tryd.prog 15 #[.agg #[.slice A0_0 l0_0.length c0_0, .int .i64 a0_1], .int .i64 a1] w fun e w' => ∃ v0_ : Value, e = .returned (.tuple #[.agg #[v0_, .int .i64 r2], .int .i64 r3]) ∧ Kd.R k46 46 w' w.heap.size (fun _ => True) v0_ r1 ∧ Below w.heap.size w w' := by
 have hu24 := Tryd.underlying24
 have HR0_0 := Aside0.mk hr0_0
 have HC0_0 := Aside0.mk hc0_0
 clear hr0_0 hc0_0
 have HB := Aside0.mk (Below.refl w.heap.size w)
 have H : ((segment_find.f k l0_0 a0_1 a1).bind fun bt137 => (if bt137.2 = 0 then ((api_Segment_23.f l0_0).bind fun t139 => ((api_Segment_27.f t139 bt137.1 (wrap64 (bt137.1 + 1))).bind fun t142 => (some (t142, a0_1, 0)))) else (some (([] : List (S46)), 0, bt137.2)))) = some (r1, r2, r3) := h
 clear h
 replace H := Option.bind_eq_some_iff.mp H
 obtain ⟨⟨t137, t138⟩, A30, H⟩ := H
 replace H : (if t138 = 0 then ((api_Segment_23.f l0_0).bind fun t139 => ((api_Segment_27.f t139 t137 (wrap64 (t137 + 1))).bind fun t142 => (some (t142, a0_1, 0)))) else (some (([] : List (S46)), 0, t138))) = some (r1, r2, r3) := H
 have A3 := Aside0.mk A30
 clear A30
 by_cases c4 : t138 = 0
 ·
  rw [if_pos c4] at H
  have c4b0 : (t138 == 0) = true := beq_iff_eq.mpr c4
  have c4b1 : (t138 != 0) = false := bne_eq_false_iff_eq.mpr c4
  clear c4
  replace H := Option.bind_eq_some_iff.mp H
  obtain ⟨t139, A50, H⟩ := H
  replace H : ((api_Segment_27.f t139 t137 (wrap64 (t137 + 1))).bind fun t142 => (some (t142, a0_1, 0))) = some (r1, r2, r3) := H
  have A5 := Aside0.mk A50
  clear A50
  replace H := Option.bind_eq_some_iff.mp H
  obtain ⟨t142, A60, H⟩ := H
  replace H : (some (t142, a0_1, 0)) = some (r1, r2, r3) := H
  have A6 := Aside0.mk A60
  clear A60
  simp only [Option.some.injEq, Prod.mk.injEq] at H
  obtain ⟨rfl, rfl, rfl⟩ := H
  go_enter Tryd.func15, Tryd.ntmps15
  try go_wp2_with (first | ((with_reducible refine gate_dst (N := 2) rfl ?_); refine bx_ 2 #[.slice A0_0 l0_0.length c0_0, .int .i64 a0_1] 24 ?_; intro gb135 hg w7 hbox hb; have BK135 := Aside0.mk (hbox); have GW135 := gw_ hg HB; have GE135 := gw_ hg HB; replace HB := sb_ HB hb; clear hb hbox hg) | ((with_reducible refine gate_dst (N := 4) rfl ?_); refine bx_ 4 #[.slice none 0 0, .int .i64 0] 24 ?_; intro gb136 hg w8 hbox hb; have BK136 := Aside0.mk (hbox); have GW136 := gw_ hg HB; have GE136 := gw_ hg HB; replace HB := sb_ HB hb; have NB135_136 := nl_ hg BK135; have NB136_135 := ng_ hg BK135; replace BK135 := kb_ BK135 hb; clear hb hbox hg; have hnb9 := NB135_136.out; have hnc9 := NB136_135.out; have hcz10_0 := cz_ BK135 0 (.slice A0_0 l0_0.length c0_0); have hcz10_1 := cz_ BK135 1 (.int .i64 a0_1); have hfz10_0 := blk_frozen BK135.out 0; have hfz10_1 := blk_frozen BK135.out 1) | ((with_reducible refine gate_callee (f := 16) rfl ?_); refine gl_ 11 Tryd.func16 #[.agg #[.slice A0_0 l0_0.length c0_0, .int .i64 a0_1], .int .i64 a1] ?_; (with_reducible refine (segment_find.calls k _ _ l0_0 a0_1 a1 t137 t138 _ ?side1 ?side2 A3.out).mono ?_); (case side1 => exact pc_ (Kd.C_below HR0_0.out HB.out)); (case side2 => exact HC0_0.out); rintro e w11 ⟨rfl, hb⟩; refine ⟨_, rfl, ?_⟩; replace BK135 := kb_ BK135 hb; replace BK136 := kb_ BK136 hb; replace HB := sb_ HB hb; (try clear hb); (try clear hb2); (try clear hk); (try clear hi)))
  replace BK135 := Aside0.mk (blk_drew BK135.out)
  replace BK136 := Aside0.mk (blk_drew BK136.out)
  replace HB := Aside0.mk (below_drew1 HB.out)
  refine start_ (n := 12) (S := fun w' => w'.cell? ⟨gb135, 0, none⟩ = some (.slice A0_0 l0_0.length c0_0) ∧ w'.cell? ⟨gb135, 1, none⟩ = some (.int .i64 a0_1)) (ds := []) #[false, false, false, false, false, false, false, false, false, false, false, false] (by kernel_rfl) rfl rfl ⟨cy_ BK135 0, cy_ BK135 1⟩ (fun hHeld => ?_); refine with_tabW segment_Destroyed.tab4 segment_Destroyed.bits4 (fun HT_ HW_ => ?_)
  generalize w11.drew = w12 at BK135 BK136 HB hHeld ⊢
  refine pu_ 0 18 HT_ ?_
  refine pu_ 3 21 HT_ ?_
  refine pu_ 4 22 HT_ ?_
  refine pu_ 5 23 HT_ ?_
  refine pu_ 7 25 HT_ ?_
  refine tk_ 1 19 HT_ HW_ hHeld rfl (Or.inl ⟨by rfl, by rintro w' ⟨s0, s1⟩; go_simp; with_reducible rfl⟩) ?_
  refine tk_ 8 26 HT_ HW_ hHeld rfl (Or.inl ⟨by rfl, by rintro w' ⟨s0, s1⟩; go_simp; with_reducible rfl⟩) ?_
  refine one_ (i := 2) (N := some 20) #[true, true, true, true, true, true, false, true, true, false, false, false] rfl rfl (one_of HT_.out (by kernel_rfl)) (by decide) (fun K hK => ?_)
  refine goes_ Tryd.func23 (by kernel_rfl) rfl #[.slice A0_0 l0_0.length c0_0] (by rfl) rfl rfl (by (try simp only [List.map_toArray, List.map_cons, List.map_nil]); first | done | rfl | (simp only [List.length_drop, List.length_take]; rfl)) ?_
  with_reducible refine (api_Segment_23.calls _ _ l0_0 t139 _ ?side1 ?side2 A5.out).mono ?_
  (case side1 => exact pc_ (Kd.C_below HR0_0.out HB.out))
  (case side2 => exact HC0_0.out)
  rintro e w13 ⟨v140, rfl, ho0, hb⟩
  refine ⟨_, rfl, ?_⟩
  have HO141 := Aside0.mk (Kd.R_lower ho0 (below_size (pb_ HB)))
  replace BK135 := kb_ BK135 hb
  replace BK136 := kb_ BK136 hb
  replace HB := sb_ HB hb
  (try clear hb)
  (try clear hb2)
  (try clear hk)
  (try clear hi)
  (try clear ho0)
  obtain ⟨Ao14, co14, eo14⟩ := Kd.R_slice HO141.out
  (first | subst eo14 | (injection eo14 with f1_ f2_ f3_; have f4_ := f1_.symm; have f5_ := f3_.symm; clear f1_ f2_ f3_; subst f4_; subst f5_))
  refine hK.out _ _ ⟨cy_ BK135 0, cy_ BK135 1⟩ (fun hHeld => ?_)
  clear hK K
  refine nn_ 20 ?_
  refine one_ (i := 6) (N := some 24) #[true, true, true, true, true, true, true, true, true, false, false, false] rfl rfl (one_of HT_.out (by kernel_rfl)) (by decide) (fun K hK => ?_)
  refine goes_ Tryd.func27 (by kernel_rfl) rfl #[.slice Ao14 t139.length co14, .int .i64 t137, .int .i64 (wrap64 (t137 + 1))] (by rfl) rfl rfl (by (try simp only [List.map_toArray, List.map_cons, List.map_nil]); first | done | rfl | (simp only [List.length_drop, List.length_take]; rfl)) ?_
  with_reducible refine (api_Segment_27.calls (fun k_ => some k_ = (.slice Ao14 t139.length co14 : Value).ownBlock) (.slice Ao14 t139.length co14) t139 t137 (wrap64 (t137 + 1)) t142 w _ ?side1 ?side2 A6.out).mono ?_
  (case side1 => repeat (first | (with_reducible first | exact HB.out | apply below_alloc | apply pw_below_drewN | apply below_drew1 | refine below_set ?_ GE135.out | refine below_set ?_ GE136.out) | exact HB.out))
  (case side2 => exact Kd.R_tight rfl HO141.out)
  rintro e w15 ⟨v143, rfl, ho0, hb, hkp⟩
  refine ⟨_, rfl, ?_⟩
  replace BK135 := Aside0.mk (blk_kept (pk_ BK135) hkp (fun hs_ => (fun e_ => (Kd.R_ne HO141.out BK135.out (by decide)) e_) hs_))
  replace BK136 := Aside0.mk (blk_kept (pk_ BK136) hkp (fun hs_ => (fun e_ => (Kd.R_ne HO141.out BK136.out (by decide)) e_) hs_))
  have HO144 := Aside0.mk (Kd.R_mono (ok' := fun k_ => True) ho0 (fun k_ hk_ => trivial))
  replace HB := Aside0.mk (hb)
  clear HO141
  (try clear hb)
  (try clear hkp)
  (try clear ho0)
  obtain ⟨Ao16, co16, eo16⟩ := Kd.R_slice HO144.out
  (first | subst eo16 | (injection eo16 with f1_ f2_ f3_; have f4_ := f1_.symm; have f5_ := f3_.symm; clear f1_ f2_ f3_; subst f4_; subst f5_))
  refine hK.out _ _ ⟨cy_ BK135 0, cy_ BK135 1⟩ (fun hHeld => ?_)
  clear hK K
  refine nn_ 24 ?_
  refine pu_ 9 27 HT_ ?_
  refine one_ (i := 10) (N := none) #[true, true, true, true, true, true, true, true, true, true, true, false] rfl rfl (one_of HT_.out (by kernel_rfl)) (by decide) (fun K hK => ?_)
  have hs17 : w15.cell? ⟨gb136, 0, none⟩ = some (.slice none 0 0) := (blk_cell BK136.out 0).trans rfl
  have hfs17 := blk_frozen BK136.out 0
  have hns17_0 := NB135_136.out
  have hms17_0 := NB136_135.out
  have hs18 : w15.cell? ⟨gb136, 1, none⟩ = some (.int .i64 0) := (blk_cell BK136.out 1).trans rfl
  have hfs18 := blk_frozen BK136.out 1
  have hns18_0 := NB135_136.out
  have hms18_0 := NB136_135.out
  refine skip_ (w1 := ?_) (by rfl) rfl ?_ ?_
  rotate_left
  ·
   go_simp
   rfl
  refine hK.out _ _ ⟨((cell_far (p := ⟨gb136, _, none⟩) NB135_136.out _).trans (((cell_far (p := ⟨gb136, _, none⟩) NB135_136.out _).trans (hHeld.1)))), ((cell_far (p := ⟨gb136, _, none⟩) NB135_136.out _).trans (((cell_far (p := ⟨gb136, _, none⟩) NB135_136.out _).trans (hHeld.2))))⟩ (fun hHeld => ?_)
  clear hK K
  refine pu_ 11 5 HT_ ?_
  refine done_ (done_of HT_.out (by kernel_rfl)) ?_
  try go_wp2
  refine bodyPost_ret (results_ct rfl _ _ gb136 24 #[.slice Ao16 t142.length co16, .int .i64 a0_1] (0, 0) _ rfl (bq_ BK136) Tryd.underlying24 rfl (by kernel_rfl)) rfl ?_
  exact ⟨_, er_, by (with_reducible repeat (first | apply Kd.R_alloc | apply Kd.R_drewN | apply Kd.R_drew)); exact Kd.R_mono (Kd.R_far (p := ⟨gb136, 1, none⟩) (Kd.R_far (p := ⟨gb136, 0, none⟩) (Kd.R_types HO144.out BK136.out (by decide)) (fun _ hk => hk.2) (.slice Ao16 t142.length co16)) (fun _ hk => hk.2) (.int .i64 a0_1)) (fun _ hk => trivial), pb_ HB⟩
 rw [if_neg c4] at H
 have c4b0 : (t138 == 0) = false := beq_eq_false_iff_ne.mpr c4
 have c4b1 : (t138 != 0) = true := bne_iff_ne.mpr c4
 simp only [Option.some.injEq, Prod.mk.injEq] at H
 obtain ⟨rfl, rfl, rfl⟩ := H
 go_enter Tryd.func15, Tryd.ntmps15
 go_wp2_with (first | ((with_reducible refine gate_dst (N := 2) rfl ?_); refine bx_ 2 #[.slice A0_0 l0_0.length c0_0, .int .i64 a0_1] 24 ?_; intro gb135 hg w19 hbox hb; have BK135 := Aside0.mk (hbox); have GW135 := gw_ hg HB; have GE135 := gw_ hg HB; replace HB := sb_ HB hb; clear hb hbox hg) | ((with_reducible refine gate_dst (N := 4) rfl ?_); refine bx_ 4 #[.slice none 0 0, .int .i64 0] 24 ?_; intro gb136 hg w20 hbox hb; have BK136 := Aside0.mk (hbox); have GW136 := gw_ hg HB; have GE136 := gw_ hg HB; replace HB := sb_ HB hb; have NB135_136 := nl_ hg BK135; have NB136_135 := ng_ hg BK135; replace BK135 := kb_ BK135 hb; clear hb hbox hg; have hnb21 := NB135_136.out; have hnc21 := NB136_135.out; have hcz22_0 := cz_ BK135 0 (.slice A0_0 l0_0.length c0_0); have hcz22_1 := cz_ BK135 1 (.int .i64 a0_1); have hfz22_0 := blk_frozen BK135.out 0; have hfz22_1 := blk_frozen BK135.out 1) | ((with_reducible refine gate_callee (f := 16) rfl ?_); refine gl_ 11 Tryd.func16 #[.agg #[.slice A0_0 l0_0.length c0_0, .int .i64 a0_1], .int .i64 a1] ?_; (with_reducible refine (segment_find.calls k _ _ l0_0 a0_1 a1 t137 t138 _ ?side1 ?side2 A3.out).mono ?_); (case side1 => exact pc_ (Kd.C_below HR0_0.out HB.out)); (case side2 => exact HC0_0.out); rintro e w23 ⟨rfl, hb⟩; refine ⟨_, rfl, ?_⟩; replace BK135 := kb_ BK135 hb; replace BK136 := kb_ BK136 hb; replace HB := sb_ HB hb; (try clear hb); (try clear hb2); (try clear hk); (try clear hi); have hcz24_0 := cz_ BK136 0 (.slice none 0 0); have hcz24_1 := cz_ BK136 1 (.int .i64 0); have hfz24_0 := blk_frozen BK136.out 0; have hfz24_1 := blk_frozen BK136.out 1))
 refine bodyPost_ret (results_ct rfl _ _ gb136 24 #[.slice none 0 0, .int .i64 0] (0, 0) _ rfl (bq_ BK136) Tryd.underlying24 rfl (by kernel_rfl)) rfl ?_
 exact ⟨_, er_, by first | exact Kd.R_nil _ _ _ _ _ | exact Kd.N_nil _ _ _ _ _ | exact Kd.V_nil _ _ _ _ _ | exact Kd.Q_nil _ _ _ _ _ | exact Kd.S_nil _ _ _ _ _, pb_ HB⟩
def midrangelaw04_awake.j0 : Nat → Bool → List (S46) → Int → Option (Bool)
  | 0, _, _, _ => none
  | k + 1, x26, x152000, x152001 => if x26 = true then (some false) else ((segment_Destroyed.f k x152000 x152001 1).bind fun bt152 => (if bt152.2.2 = 0 then ((segment_Created.f k bt152.1 bt152.2.1 1).bind fun bt157 => (if bt157.2.2.2 = 0 then (some (bt157.2.2.1 == 2)) else (some false))) else (some false)))
def midrangelaw04_awake.f (k : Nat)  : Option (Bool) := (segment_Created.f k ([] : List (S46)) 1 2).bind fun bt145 => (if bt145.2.2.2 = 0 then (if bt145.2.2.1 = 1 then (if bt145.2.1 = 2 then (midrangelaw04_awake.j0 k ((bt145.1.length : Int) != 1) bt145.1 bt145.2.1) else (midrangelaw04_awake.j0 k true bt145.1 bt145.2.1)) else (midrangelaw04_awake.j0 k true bt145.1 bt145.2.1)) else (midrangelaw04_awake.j0 k true bt145.1 bt145.2.1))
theorem midrangelaw04_awake.mono_l : ∀ k, (∀ y0 y1 y2, LeO (midrangelaw04_awake.j0 k y0 y1 y2) (midrangelaw04_awake.j0 (k + 1) y0 y1 y2))
 | 0 => fun _ _ _ r h => by simp [midrangelaw04_awake.j0] at h
 | k + 1 => by
  have ih0 := midrangelaw04_awake.mono_l k
  intro y0 y1 y2
  unfold midrangelaw04_awake.j0
  repeat' first
  | (with_reducible exact ih0 _ _ _)
  | (with_reducible exact segment_Created.mono _ _ _ _)
  | (with_reducible exact segment_Destroyed.mono _ _ _ _)
  | (with_reducible exact LeO.refl _)
  | (with_reducible exact LeO.none _)
  | (with_reducible refine LeO.ite ?_ ?_)
  | (with_reducible refine LeO.bind ?_ (fun _ => ?_))
  | exact ih0 _ _ _
  | exact segment_Created.mono _ _ _ _
  | exact segment_Destroyed.mono _ _ _ _
  | exact LeO.none _
  | refine LeO.ite ?_ ?_
  | refine LeO.bind ?_ (fun _ => ?_)
theorem midrangelaw04_awake.mono : ∀ k, LeO (midrangelaw04_awake.f k ) (midrangelaw04_awake.f (k + 1) ) := by
 intro  k
 have ih0 := midrangelaw04_awake.mono_l k
 unfold midrangelaw04_awake.f
 repeat' first
  | (with_reducible exact ih0 _ _ _)
  | (with_reducible exact segment_Created.mono _ _ _ _)
  | (with_reducible exact segment_Destroyed.mono _ _ _ _)
  | (with_reducible exact LeO.refl _)
  | (with_reducible exact LeO.none _)
  | (with_reducible refine LeO.ite ?_ ?_)
  | (with_reducible refine LeO.bind ?_ (fun _ => ?_))
  | exact ih0 _ _ _
  | exact segment_Created.mono _ _ _ _
  | exact segment_Destroyed.mono _ _ _ _
  | exact LeO.none _
  | refine LeO.ite ?_ ?_
  | refine LeO.bind ?_ (fun _ => ?_)
set_option maxHeartbeats 8000000 in
set_option maxRecDepth 100000 in
theorem midrangelaw04_awake.calls (k : Nat)  (r : Bool) (w : World) (h : midrangelaw04_awake.f k  = some r) :
  Calls Tryd.prog 5 #[] w fun e w' => e = .returned (.bool r) ∧ Below w.heap.size w w' := by
 have hu24 := Tryd.underlying24
 have HB := Aside0.mk (Below.refl w.heap.size w)
 have H : ((segment_Created.f k ([] : List (S46)) 1 2).bind fun bt145 => (if bt145.2.2.2 = 0 then (if bt145.2.2.1 = 1 then (if bt145.2.1 = 2 then (midrangelaw04_awake.j0 k ((bt145.1.length : Int) != 1) bt145.1 bt145.2.1) else (midrangelaw04_awake.j0 k true bt145.1 bt145.2.1)) else (midrangelaw04_awake.j0 k true bt145.1 bt145.2.1)) else (midrangelaw04_awake.j0 k true bt145.1 bt145.2.1))) = some r := h
 clear h
 replace H := Option.bind_eq_some_iff.mp H
 obtain ⟨⟨t145, t148, t149, t150⟩, A10, H⟩ := H
 replace H : (if t150 = 0 then (if t149 = 1 then (if t148 = 2 then (midrangelaw04_awake.j0 k ((t145.length : Int) != 1) t145 t148) else (midrangelaw04_awake.j0 k true t145 t148)) else (midrangelaw04_awake.j0 k true t145 t148)) else (midrangelaw04_awake.j0 k true t145 t148)) = some r := H
 have A1 := Aside0.mk A10
 clear A10
 have HC2 := Aside0.mk H
 clear H
 go_enter Tryd.func5, Tryd.ntmps5
 go_upto_region 2 with (first | ((with_reducible refine gate_callee (f := 14) rfl ?_); refine gl_ 6 Tryd.func14 #[.agg #[.slice none 0 0, .int .i64 1], .int .i64 2] ?_; (refine (segment_Created.calls k _ _ ([] : List (S46)) 1 2 t145 t148 t149 t150 _ ?side1 ?side2 A1.out).mono ?_); (case side1 => exact Kd.C_nil _ _); (case side2 => exact Nat.le_refl _); rintro e w3 ⟨v146, rfl, ho0, hb⟩; refine ⟨_, rfl, ?_⟩; have HO147 := Aside0.mk (Kd.R_lower ho0 (below_size (pb_ HB))); replace HB := sb_ HB hb; (try clear hb); (try clear hb2); (try clear hk); (try clear hi); (try clear ho0)) | ((with_reducible refine gate_dst (N := 1) rfl ?_); (try (refine gate_guard (by rfl) ?_; dsimp only)); refine bx_ 1 #[.slice none 0 0, .int .i64 0] 24 ?_; intro gb151 hg w4 hbox hb; replace HO147 := Aside0.mk (Kd.R_below (rk_ HO147) hb); have BK151 := Aside0.mk (hbox); have GW151 := gw_ hg HB; have GE151 := gw_ hg HB; replace HB := sb_ HB hb; clear hb hbox hg; obtain ⟨Ao5, co5, eo5⟩ := Kd.R_slice HO147.out; subst eo5; have hcz6_0 := cz_ BK151 0 (.slice none 0 0); have hcz6_1 := cz_ BK151 1 (.int .i64 0); have hfz6_0 := blk_frozen BK151.out 0; have hfz6_1 := blk_frozen BK151.out 1))
 (try simp only [Act.put, List.setIfInBounds_toArray, List.set_cons_zero, List.set_cons_succ])
 go_cut [26] (fun v26 wc => ∃ (kq : Nat) (x26_1 : Bool), v26 = .bool x26_1 ∧ Aside0 (midrangelaw04_awake.j0 kq x26_1 t145 t148 = some r) ∧ Aside0 (kq ≤ k) ∧ Aside0 (Kd.R k46 46 wc w.heap.size (fun _ => True) (.slice Ao5 t145.length co5) t145) ∧ Aside0 (wc.heap[gb151]? = some (.cells #[(.slice Ao5 t145.length co5), .int .i64 t148] 24 (0, 0))) ∧ Aside0 (Below w.heap.size w wc))
 case first =>
  have H := HC2.out
  clear HC2
  by_cases c7 : t150 = 0
  ·
   rw [if_pos c7] at H
   have c7b0 : (t150 == 0) = true := beq_iff_eq.mpr c7
   have c7b1 : (t150 != 0) = false := bne_eq_false_iff_eq.mpr c7
   clear c7
   (first | rw [c7b0] | (simp only [i64_w, i32_w]; rw [c7b0]) | skip)
   by_cases c8 : t149 = 1
   ·
    rw [if_pos c8] at H
    have c8b0 : (t149 == 1) = true := beq_iff_eq.mpr c8
    have c8b1 : (t149 != 1) = false := bne_eq_false_iff_eq.mpr c8
    clear c8
    by_cases c9 : t148 = 2
    ·
     rw [if_pos c9] at H
     have c9b0 : (t148 == 2) = true := beq_iff_eq.mpr c9
     have c9b1 : (t148 != 2) = false := bne_eq_false_iff_eq.mpr c9
     clear c9
     have H' := Aside0.mk H
     clear H
     have hcz10_0 := cz_ BK151 0 (.slice none 0 0)
     have hcz10_1 := cz_ BK151 1 (.int .i64 0)
     have hfz10_0 := blk_frozen BK151.out 0
     have hfz10_1 := blk_frozen BK151.out 1
     go_wp2
     go_meet
     case rel => exact ⟨_, (((t145.length : Int) != 1)), rl_, H', ⟨by first | omega | exact Nat.le_refl _⟩, ⟨by (with_reducible repeat (first | apply Kd.R_alloc | apply Kd.R_drewN | apply Kd.R_drew)); exact Kd.R_mono (Kd.R_far (p := ⟨gb151, 1, none⟩) (Kd.R_far (p := ⟨gb151, 0, none⟩) (Kd.R_types HO147.out BK151.out (by decide)) (fun _ hk => hk.2) (.slice Ao5 t145.length co5)) (fun _ hk => hk.2) (.int .i64 t148)) (fun _ hk => trivial)⟩, ⟨bq_ BK151⟩, ⟨pb_ HB⟩⟩
    rw [if_neg c9] at H
    have c9b0 : (t148 == 2) = false := beq_eq_false_iff_ne.mpr c9
    have c9b1 : (t148 != 2) = true := bne_iff_ne.mpr c9
    have H' := Aside0.mk H
    clear H
    have hcz11_0 := cz_ BK151 0 (.slice none 0 0)
    have hcz11_1 := cz_ BK151 1 (.int .i64 0)
    have hfz11_0 := blk_frozen BK151.out 0
    have hfz11_1 := blk_frozen BK151.out 1
    go_wp2
    go_meet
    case rel => exact ⟨_, (true), rl_, H', ⟨by first | omega | exact Nat.le_refl _⟩, ⟨by (with_reducible repeat (first | apply Kd.R_alloc | apply Kd.R_drewN | apply Kd.R_drew)); exact Kd.R_mono (Kd.R_far (p := ⟨gb151, 1, none⟩) (Kd.R_far (p := ⟨gb151, 0, none⟩) (Kd.R_types HO147.out BK151.out (by decide)) (fun _ hk => hk.2) (.slice Ao5 t145.length co5)) (fun _ hk => hk.2) (.int .i64 t148)) (fun _ hk => trivial)⟩, ⟨bq_ BK151⟩, ⟨pb_ HB⟩⟩
   rw [if_neg c8] at H
   have c8b0 : (t149 == 1) = false := beq_eq_false_iff_ne.mpr c8
   have c8b1 : (t149 != 1) = true := bne_iff_ne.mpr c8
   have H' := Aside0.mk H
   clear H
   go_wp2
   go_meet
   case rel => exact ⟨_, (true), rl_, H', ⟨by first | omega | exact Nat.le_refl _⟩, ⟨by (with_reducible repeat (first | apply Kd.R_alloc | apply Kd.R_drewN | apply Kd.R_drew)); exact Kd.R_mono (Kd.R_far (p := ⟨gb151, 1, none⟩) (Kd.R_far (p := ⟨gb151, 0, none⟩) (Kd.R_types HO147.out BK151.out (by decide)) (fun _ hk => hk.2) (.slice Ao5 t145.length co5)) (fun _ hk => hk.2) (.int .i64 t148)) (fun _ hk => trivial)⟩, ⟨bq_ BK151⟩, ⟨pb_ HB⟩⟩
  rw [if_neg c7] at H
  have c7b0 : (t150 == 0) = false := beq_eq_false_iff_ne.mpr c7
  have c7b1 : (t150 != 0) = true := bne_iff_ne.mpr c7
  (first | rw [c7b0] | (simp only [i64_w, i32_w]; rw [c7b0]) | skip)
  have H' := Aside0.mk H
  clear H
  go_wp2
  go_meet
  case rel => exact ⟨_, (true), rl_, H', ⟨by first | omega | exact Nat.le_refl _⟩, ⟨by (with_reducible repeat (first | apply Kd.R_alloc | apply Kd.R_drewN | apply Kd.R_drew)); exact Kd.R_mono (Kd.R_far (p := ⟨gb151, 1, none⟩) (Kd.R_far (p := ⟨gb151, 0, none⟩) (Kd.R_types HO147.out BK151.out (by decide)) (fun _ hk => hk.2) (.slice Ao5 t145.length co5)) (fun _ hk => hk.2) (.int .i64 t148)) (fun _ hk => trivial)⟩, ⟨bq_ BK151⟩, ⟨pb_ HB⟩⟩
 case rest =>
  clear HC2
  try clear c1
  try clear p2
  try clear c5
  try clear c7
  try clear c7b0
  try clear c7b1
  try clear c8
  try clear c8b0
  try clear c8b1
  try clear c9
  try clear c9b0
  try clear c9b1
  try clear hcz10_0
  try clear hcz10_1
  try clear hcz11_0
  try clear hcz11_1
  try clear hcz6_0
  try clear hcz6_1
  try clear hfz10_0
  try clear hfz10_1
  try clear hfz11_0
  try clear hfz11_1
  try clear hfz6_0
  try clear hfz6_1
  obtain ⟨kq, x26_1, rfl, HA, HJ1, HO_152000, BK151, HB⟩ := hcut
  cases kq with
  | zero => exact absurd HA.out (by simp [midrangelaw04_awake.j0])
  | succ kj1 =>
   have H := HA.out
   clear HA
   simp only [midrangelaw04_awake.j0] at H
   by_cases c12 : x26_1 = true
   ·
    subst c12
    have H1 : (some false) = some r := by rw [if_pos rfl] at H; exact H
    clear H
    have H := H1
    clear H1
    obtain rfl := Option.some.inj H
    go_wp2
    go_ret
    exact ⟨er_, pb_ HB⟩
   replace c12 := Bool.eq_false_iff.mpr c12
   subst c12
   have H1 : ((segment_Destroyed.f kj1 t145 t148 1).bind fun bt152 => (if bt152.2.2 = 0 then ((segment_Created.f kj1 bt152.1 bt152.2.1 1).bind fun bt157 => (if bt157.2.2.2 = 0 then (some (bt157.2.2.1 == 2)) else (some false))) else (some false))) = some r := by rw [if_neg (show ¬ (false = true) by decide)] at H; exact H
   clear H
   have H := H1
   clear H1
   replace H := Option.bind_eq_some_iff.mp H
   obtain ⟨⟨t152, t155, t156⟩, A130, H⟩ := H
   replace H : (if t156 = 0 then ((segment_Created.f kj1 t152 t155 1).bind fun bt157 => (if bt157.2.2.2 = 0 then (some (bt157.2.2.1 == 2)) else (some false))) else (some false)) = some r := H
   have A13 := Aside0.mk A130
   clear A130
   by_cases c14 : t156 = 0
   ·
    rw [if_pos c14] at H
    have c14b0 : (t156 == 0) = true := beq_iff_eq.mpr c14
    have c14b1 : (t156 != 0) = false := bne_eq_false_iff_eq.mpr c14
    clear c14
    replace H := Option.bind_eq_some_iff.mp H
    obtain ⟨⟨t157, t160, t161, t162⟩, A150, H⟩ := H
    replace H : (if t162 = 0 then (some (t161 == 2)) else (some false)) = some r := H
    have A15 := Aside0.mk A150
    clear A150
    by_cases c16 : t162 = 0
    ·
     rw [if_pos c16] at H
     have c16b0 : (t162 == 0) = true := beq_iff_eq.mpr c16
     have c16b1 : (t162 != 0) = false := bne_eq_false_iff_eq.mpr c16
     clear c16
     obtain rfl := Option.some.inj H
     have hcz17_0 := cz_ BK151 0 (.slice Ao5 t145.length co5)
     have hcz17_1 := cz_ BK151 1 (.int .i64 t148)
     have hfz17_0 := blk_frozen BK151.out 0
     have hfz17_1 := blk_frozen BK151.out 1
     go_wp2_with (first | ((with_reducible refine gate_callee (f := 15) rfl ?_); refine gl_ 29 Tryd.func15 #[.agg #[.slice Ao5 t145.length co5, .int .i64 t148], .int .i64 1] ?_; (with_reducible refine (segment_Destroyed.calls kj1 _ _ t145 t148 1 t152 t155 t156 _ ?side1 ?side2 A13.out).mono ?_); (case side1 => exact pc_ (Kd.R_reads' HO_152000.out).2.2); (case side2 => exact (Kd.R_reads' HO_152000.out).2.1); rintro e w18 ⟨v153, rfl, ho0, hb⟩; refine ⟨_, rfl, ?_⟩; have HO154 := Aside0.mk (Kd.R_lower (Kd.R_new' ho0 (Kd.R_lt (rk_ HO_152000))) (below_size (pb_ HB))); replace HO_152000 := Aside0.mk (Kd.R_elder' (rk_ HO_152000) (Kd.R_base ho0) hb); replace BK151 := kb_ BK151 hb; replace HB := sb_ HB hb; (try clear hb); (try clear hb2); (try clear hk); (try clear hi); (try clear ho0); obtain ⟨Ao19, co19, eo19⟩ := Kd.R_slice HO154.out; subst eo19; have hcz20_0 := cz_ BK151 0 (.slice Ao5 t145.length co5); have hcz20_1 := cz_ BK151 1 (.int .i64 t148); have hfz20_0 := blk_frozen BK151.out 0; have hfz20_1 := blk_frozen BK151.out 1) | ((with_reducible refine gate_callee (f := 14) rfl ?_); refine gl_ 36 Tryd.func14 #[.agg #[.slice Ao19 t152.length co19, .int .i64 t155], .int .i64 1] ?_; (with_reducible refine (segment_Created.calls kj1 _ _ t152 t155 1 t157 t160 t161 t162 _ ?side1 ?side2 A15.out).mono ?_); (case side1 => refine (Kd.R_reads' (e := 46) (base := w.heap.size) (ok := fun k_ => (True ∧ some k_ ≠ (.slice Ao5 t145.length co5 : Value).ownBlock)) (n := t152.length) (c := co19) ?_).2.2; exact (by (with_reducible repeat (first | apply Kd.R_alloc | apply Kd.R_drewN | apply Kd.R_drew)); exact (Kd.R_mono (Kd.R_far (p := ⟨gb151, 1, none⟩) (Kd.R_far (p := ⟨gb151, 0, none⟩) (Kd.R_types HO154.out BK151.out (by decide)) (fun _ hk => hk.2) (.slice Ao19 t152.length co19)) (fun _ hk => hk.2) (.int .i64 t155)) (fun _ h_ => h_.1)))); (case side2 => exact (Kd.R_reads' HO154.out).2.1); rintro e w21 ⟨v158, rfl, ho0, hb⟩; refine ⟨_, rfl, ?_⟩; have HO159 := Aside0.mk (Kd.R_lower (Kd.R_new' (Kd.R_new' ho0 (Kd.R_lt (by (with_reducible repeat (first | apply Kd.R_alloc | apply Kd.R_drewN | apply Kd.R_drew)); exact (Kd.R_mono (Kd.R_far (p := ⟨gb151, 1, none⟩) (Kd.R_far (p := ⟨gb151, 0, none⟩) (Kd.R_types HO_152000.out BK151.out (by decide)) (fun _ hk => hk.2) (.slice Ao19 t152.length co19)) (fun _ hk => hk.2) (.int .i64 t155)) (fun _ h_ => h_.1))))) (Kd.R_lt (by (with_reducible repeat (first | apply Kd.R_alloc | apply Kd.R_drewN | apply Kd.R_drew)); exact (Kd.R_mono (Kd.R_far (p := ⟨gb151, 1, none⟩) (Kd.R_far (p := ⟨gb151, 0, none⟩) (Kd.R_types HO154.out BK151.out (by decide)) (fun _ hk => hk.2) (.slice Ao19 t152.length co19)) (fun _ hk => hk.2) (.int .i64 t155)) (fun _ h_ => h_.1))))) (below_size (pb_ HB))); replace HO_152000 := Aside0.mk (Kd.R_elder' (by (with_reducible repeat (first | apply Kd.R_alloc | apply Kd.R_drewN | apply Kd.R_drew)); exact (Kd.R_mono (Kd.R_far (p := ⟨gb151, 1, none⟩) (Kd.R_far (p := ⟨gb151, 0, none⟩) (Kd.R_types HO_152000.out BK151.out (by decide)) (fun _ hk => hk.2) (.slice Ao19 t152.length co19)) (fun _ hk => hk.2) (.int .i64 t155)) (fun _ h_ => h_.1))) (Kd.R_base ho0) hb); replace HO154 := Aside0.mk (Kd.R_elder' (by (with_reducible repeat (first | apply Kd.R_alloc | apply Kd.R_drewN | apply Kd.R_drew)); exact (Kd.R_mono (Kd.R_far (p := ⟨gb151, 1, none⟩) (Kd.R_far (p := ⟨gb151, 0, none⟩) (Kd.R_types HO154.out BK151.out (by decide)) (fun _ hk => hk.2) (.slice Ao19 t152.length co19)) (fun _ hk => hk.2) (.int .i64 t155)) (fun _ h_ => h_.1))) (Kd.R_base ho0) hb); replace BK151 := Aside0.mk (blk_below (g := gb151) (o := .cells #[.slice Ao19 t152.length co19, .int .i64 t155] 24 (0, 0)) (bq_ BK151) hb); replace HB := sb_ HB hb; (try clear hb); (try clear hb2); (try clear hk); (try clear hi); (try clear ho0)))
     go_ret
     exact ⟨er_, pb_ HB⟩
    rw [if_neg c16] at H
    have c16b0 : (t162 == 0) = false := beq_eq_false_iff_ne.mpr c16
    have c16b1 : (t162 != 0) = true := bne_iff_ne.mpr c16
    obtain rfl := Option.some.inj H
    have hcz22_0 := cz_ BK151 0 (.slice Ao5 t145.length co5)
    have hcz22_1 := cz_ BK151 1 (.int .i64 t148)
    have hfz22_0 := blk_frozen BK151.out 0
    have hfz22_1 := blk_frozen BK151.out 1
    go_wp2_with (first | ((with_reducible refine gate_callee (f := 15) rfl ?_); refine gl_ 29 Tryd.func15 #[.agg #[.slice Ao5 t145.length co5, .int .i64 t148], .int .i64 1] ?_; (with_reducible refine (segment_Destroyed.calls kj1 _ _ t145 t148 1 t152 t155 t156 _ ?side1 ?side2 A13.out).mono ?_); (case side1 => exact pc_ (Kd.R_reads' HO_152000.out).2.2); (case side2 => exact (Kd.R_reads' HO_152000.out).2.1); rintro e w23 ⟨v153, rfl, ho0, hb⟩; refine ⟨_, rfl, ?_⟩; have HO154 := Aside0.mk (Kd.R_lower (Kd.R_new' ho0 (Kd.R_lt (rk_ HO_152000))) (below_size (pb_ HB))); replace HO_152000 := Aside0.mk (Kd.R_elder' (rk_ HO_152000) (Kd.R_base ho0) hb); replace BK151 := kb_ BK151 hb; replace HB := sb_ HB hb; (try clear hb); (try clear hb2); (try clear hk); (try clear hi); (try clear ho0); obtain ⟨Ao24, co24, eo24⟩ := Kd.R_slice HO154.out; subst eo24; have hcz25_0 := cz_ BK151 0 (.slice Ao5 t145.length co5); have hcz25_1 := cz_ BK151 1 (.int .i64 t148); have hfz25_0 := blk_frozen BK151.out 0; have hfz25_1 := blk_frozen BK151.out 1) | ((with_reducible refine gate_callee (f := 14) rfl ?_); refine gl_ 36 Tryd.func14 #[.agg #[.slice Ao24 t152.length co24, .int .i64 t155], .int .i64 1] ?_; (with_reducible refine (segment_Created.calls kj1 _ _ t152 t155 1 t157 t160 t161 t162 _ ?side1 ?side2 A15.out).mono ?_); (case side1 => refine (Kd.R_reads' (e := 46) (base := w.heap.size) (ok := fun k_ => (True ∧ some k_ ≠ (.slice Ao5 t145.length co5 : Value).ownBlock)) (n := t152.length) (c := co24) ?_).2.2; exact (by (with_reducible repeat (first | apply Kd.R_alloc | apply Kd.R_drewN | apply Kd.R_drew)); exact (Kd.R_mono (Kd.R_far (p := ⟨gb151, 1, none⟩) (Kd.R_far (p := ⟨gb151, 0, none⟩) (Kd.R_types HO154.out BK151.out (by decide)) (fun _ hk => hk.2) (.slice Ao24 t152.length co24)) (fun _ hk => hk.2) (.int .i64 t155)) (fun _ h_ => h_.1)))); (case side2 => exact (Kd.R_reads' HO154.out).2.1); rintro e w26 ⟨v158, rfl, ho0, hb⟩; refine ⟨_, rfl, ?_⟩; have HO159 := Aside0.mk (Kd.R_lower (Kd.R_new' (Kd.R_new' ho0 (Kd.R_lt (by (with_reducible repeat (first | apply Kd.R_alloc | apply Kd.R_drewN | apply Kd.R_drew)); exact (Kd.R_mono (Kd.R_far (p := ⟨gb151, 1, none⟩) (Kd.R_far (p := ⟨gb151, 0, none⟩) (Kd.R_types HO_152000.out BK151.out (by decide)) (fun _ hk => hk.2) (.slice Ao24 t152.length co24)) (fun _ hk => hk.2) (.int .i64 t155)) (fun _ h_ => h_.1))))) (Kd.R_lt (by (with_reducible repeat (first | apply Kd.R_alloc | apply Kd.R_drewN | apply Kd.R_drew)); exact (Kd.R_mono (Kd.R_far (p := ⟨gb151, 1, none⟩) (Kd.R_far (p := ⟨gb151, 0, none⟩) (Kd.R_types HO154.out BK151.out (by decide)) (fun _ hk => hk.2) (.slice Ao24 t152.length co24)) (fun _ hk => hk.2) (.int .i64 t155)) (fun _ h_ => h_.1))))) (below_size (pb_ HB))); replace HO_152000 := Aside0.mk (Kd.R_elder' (by (with_reducible repeat (first | apply Kd.R_alloc | apply Kd.R_drewN | apply Kd.R_drew)); exact (Kd.R_mono (Kd.R_far (p := ⟨gb151, 1, none⟩) (Kd.R_far (p := ⟨gb151, 0, none⟩) (Kd.R_types HO_152000.out BK151.out (by decide)) (fun _ hk => hk.2) (.slice Ao24 t152.length co24)) (fun _ hk => hk.2) (.int .i64 t155)) (fun _ h_ => h_.1))) (Kd.R_base ho0) hb); replace HO154 := Aside0.mk (Kd.R_elder' (by (with_reducible repeat (first | apply Kd.R_alloc | apply Kd.R_drewN | apply Kd.R_drew)); exact (Kd.R_mono (Kd.R_far (p := ⟨gb151, 1, none⟩) (Kd.R_far (p := ⟨gb151, 0, none⟩) (Kd.R_types HO154.out BK151.out (by decide)) (fun _ hk => hk.2) (.slice Ao24 t152.length co24)) (fun _ hk => hk.2) (.int .i64 t155)) (fun _ h_ => h_.1))) (Kd.R_base ho0) hb); replace BK151 := Aside0.mk (blk_below (g := gb151) (o := .cells #[.slice Ao24 t152.length co24, .int .i64 t155] 24 (0, 0)) (bq_ BK151) hb); replace HB := sb_ HB hb; (try clear hb); (try clear hb2); (try clear hk); (try clear hi); (try clear ho0)))
    go_ret
    exact ⟨er_, pb_ HB⟩
   rw [if_neg c14] at H
   have c14b0 : (t156 == 0) = false := beq_eq_false_iff_ne.mpr c14
   have c14b1 : (t156 != 0) = true := bne_iff_ne.mpr c14
   obtain rfl := Option.some.inj H
   have hcz27_0 := cz_ BK151 0 (.slice Ao5 t145.length co5)
   have hcz27_1 := cz_ BK151 1 (.int .i64 t148)
   have hfz27_0 := blk_frozen BK151.out 0
   have hfz27_1 := blk_frozen BK151.out 1
   go_wp2_with (first | ((with_reducible refine gate_callee (f := 15) rfl ?_); refine gl_ 29 Tryd.func15 #[.agg #[.slice Ao5 t145.length co5, .int .i64 t148], .int .i64 1] ?_; (with_reducible refine (segment_Destroyed.calls kj1 _ _ t145 t148 1 t152 t155 t156 _ ?side1 ?side2 A13.out).mono ?_); (case side1 => exact pc_ (Kd.R_reads' HO_152000.out).2.2); (case side2 => exact (Kd.R_reads' HO_152000.out).2.1); rintro e w28 ⟨v153, rfl, ho0, hb⟩; refine ⟨_, rfl, ?_⟩; have HO154 := Aside0.mk (Kd.R_lower (Kd.R_new' ho0 (Kd.R_lt (rk_ HO_152000))) (below_size (pb_ HB))); replace HO_152000 := Aside0.mk (Kd.R_elder' (rk_ HO_152000) (Kd.R_base ho0) hb); replace BK151 := kb_ BK151 hb; replace HB := sb_ HB hb; (try clear hb); (try clear hb2); (try clear hk); (try clear hi); (try clear ho0); obtain ⟨Ao29, co29, eo29⟩ := Kd.R_slice HO154.out; subst eo29; have hcz30_0 := cz_ BK151 0 (.slice Ao5 t145.length co5); have hcz30_1 := cz_ BK151 1 (.int .i64 t148); have hfz30_0 := blk_frozen BK151.out 0; have hfz30_1 := blk_frozen BK151.out 1))
   go_ret
   exact ⟨er_, pb_ HB⟩
def midrangelaw04_few.l0 : Nat → Int → List (S46) → Int → Option (Bool)
  | 0, _, _, _ => none
  | k + 1, x3, x164000, x164001 => if x3 < (x164000.length : Int) then (if 0 ≤ x3 then (if (((rd_T46 x164000 x3).f1).size : Int) > 400 then (some false) else (midrangelaw04_few.l0 k (wrap64 (x3 + 1)) x164000 x164001)) else (none)) else (some true)
def midrangelaw04_few.f (k : Nat) (l0_0 : List (S46)) (a0_1 : Int) : Option (Bool) := if (l0_0.length : Int) > 12 then (some false) else (midrangelaw04_few.l0 k 0 l0_0 a0_1)
set_option maxHeartbeats 8000000 in
set_option maxRecDepth 100000 in
theorem midrangelaw04_few.calls (k : Nat) (A0_0 : Option Addr) (c0_0 : Nat) (l0_0 : List (S46)) (a0_1 : Int) (r : Bool) (w : World) (hr0_0 : Kd.C k46 w A0_0 l0_0.length l0_0) (hc0_0 : l0_0.length ≤ c0_0) (h : midrangelaw04_few.f k l0_0 a0_1 = some r) :
  Calls Tryd.prog 6 #[.agg #[.slice A0_0 l0_0.length c0_0, .int .i64 a0_1]] w fun e w' => e = .returned (.bool r) ∧ Below w.heap.size w w' := by
 have hu24 := Tryd.underlying24
 have HR0_0 := Aside0.mk hr0_0
 have HC0_0 := Aside0.mk hc0_0
 clear hr0_0 hc0_0
 have HB := Aside0.mk (Below.refl w.heap.size w)
 have H : (if (l0_0.length : Int) > 12 then (some false) else (midrangelaw04_few.l0 k 0 l0_0 a0_1)) = some r := h
 clear h
 by_cases c2 : (l0_0.length : Int) > 12
 ·
  rw [if_pos c2] at H
  have c2b0 : decide (12 < (l0_0.length : Int)) = true := decide_eq_true c2
  have c2b1 : decide (12 < l0_0.length) = true := decide_eq_true (by omega)
  clear c2
  obtain rfl := Option.some.inj H
  go_enter Tryd.func6, Tryd.ntmps6
  go_wp2_with (first | ((with_reducible refine gate_dst (N := 1) rfl ?_); refine bx_ 1 #[.slice A0_0 l0_0.length c0_0, .int .i64 a0_1] 24 ?_; intro gb163 hg w3 hbox hb; have BK163 := Aside0.mk (hbox); have GW163 := gw_ hg HB; have GE163 := gw_ hg HB; replace HB := sb_ HB hb; clear hb hbox hg; have hcz4_0 := cz_ BK163 0 (.slice A0_0 l0_0.length c0_0); have hcz4_1 := cz_ BK163 1 (.int .i64 a0_1); have hfz4_0 := blk_frozen BK163.out 0; have hfz4_1 := blk_frozen BK163.out 1))
  go_ret
  exact ⟨er_, pb_ HB⟩
 rw [if_neg c2] at H
 have c2b0 : decide (12 < (l0_0.length : Int)) = false := decide_eq_false c2
 have c2b1 : decide (12 < l0_0.length) = false := decide_eq_false (by omega)
 clear c2
 have H' := Aside0.mk H
 clear H
 go_enter Tryd.func6, Tryd.ntmps6
 go_wp2_with (first | ((with_reducible refine gate_dst (N := 1) rfl ?_); refine bx_ 1 #[.slice A0_0 l0_0.length c0_0, .int .i64 a0_1] 24 ?_; intro gb163 hg w5 hbox hb; have BK163 := Aside0.mk (hbox); have GW163 := gw_ hg HB; have GE163 := gw_ hg HB; replace HB := sb_ HB hb; clear hb hbox hg; have hcz6_0 := cz_ BK163 0 (.slice A0_0 l0_0.length c0_0); have hcz6_1 := cz_ BK163 1 (.int .i64 a0_1); have hfz6_0 := blk_frozen BK163.out 0; have hfz6_1 := blk_frozen BK163.out 1))
 go_loopg [3] k (fun kq v3 w' => ∃ (x3_1 : Int), v3 = .int .i64 x3_1 ∧ Aside0 (midrangelaw04_few.l0 kq x3_1 l0_0 a0_1 = some r) ∧ Aside0 (kq ≤ k) ∧ Aside0 (w'.heap[gb163]? = some (.cells #[(.slice A0_0 l0_0.length c0_0), .int .i64 a0_1] 24 (0, 0))) ∧ Aside0 (Below w.heap.size w w'))
 case atStart => exact ⟨(0), rl_, H', ⟨Nat.le_refl _⟩, ⟨pk_ BK163⟩, ⟨pb_ HB⟩⟩
 case round =>
  clear H'
  try clear c2
  try clear c2b0
  try clear c2b1
  try clear p2
  try clear c6
  try clear hcz4_0
  try clear hcz4_1
  try clear hcz6_0
  try clear hcz6_1
  try clear hfz4_0
  try clear hfz4_1
  try clear hfz6_0
  try clear hfz6_1
  obtain ⟨x3_1, rfl, HA, HK1, BK163, HB⟩ := hrel
  cases gk with
  | zero => exact absurd HA.out (by simp [midrangelaw04_few.l0])
  | succ k1 =>
   have H := HA.out
   clear HA
   simp only [midrangelaw04_few.l0] at H
   by_cases c7 : x3_1 < (l0_0.length : Int)
   ·
    rw [if_pos c7] at H
    have c7b0 : decide (x3_1 < (l0_0.length : Int)) = true := decide_eq_true c7
    clear c7
    by_cases c8 : 0 ≤ x3_1
    ·
     rw [if_pos c8] at H
     have c8b0 : decide (0 ≤ x3_1) = true := decide_eq_true c8
     clear c8
     by_cases c9 : (((rd_T46 l0_0 x3_1).f1).size : Int) > 400
     ·
      rw [if_pos c9] at H
      have c9b0 : decide (400 < (((rd_T46 l0_0 x3_1).f1).size : Int)) = true := decide_eq_true c9
      have c9b1 : decide (400 < ((rd_T46 l0_0 x3_1).f1).size) = true := decide_eq_true (by omega)
      clear c9
      obtain rfl := Option.some.inj H
      have hcz10_0 := cz_ BK163 0 (.slice A0_0 l0_0.length c0_0)
      have hcz10_1 := cz_ BK163 1 (.int .i64 a0_1)
      have hfz10_0 := blk_frozen BK163.out 0
      have hfz10_1 := blk_frozen BK163.out 1
      have p164 : 0 ≤ (x3_1 : Int) := ct_
      have q164 : x3_1 < (l0_0.length : Int) := ct_
      obtain ⟨ad164, e164, hx164_0, hx164_1⟩ := at_T46 HR0_0.out x3_1 p164 q164
      cases e164
      replace hx164_0 := pw_cell_below HB.out hx164_0
      replace hx164_1 := pw_cell_below HB.out hx164_1
      replace p164 := eq_true p164
      replace q164 := eq_true q164
      go_wp2
      go_ret
      exact ⟨er_, pb_ HB⟩
     rw [if_neg c9] at H
     have c9b0 : decide (400 < (((rd_T46 l0_0 x3_1).f1).size : Int)) = false := decide_eq_false c9
     have c9b1 : decide (400 < ((rd_T46 l0_0 x3_1).f1).size) = false := decide_eq_false (by omega)
     clear c9
     have H' := Aside0.mk H
     clear H
     have hcz11_0 := cz_ BK163 0 (.slice A0_0 l0_0.length c0_0)
     have hcz11_1 := cz_ BK163 1 (.int .i64 a0_1)
     have hfz11_0 := blk_frozen BK163.out 0
     have hfz11_1 := blk_frozen BK163.out 1
     have p164 : 0 ≤ (x3_1 : Int) := ct_
     have q164 : x3_1 < (l0_0.length : Int) := ct_
     obtain ⟨ad164, e164, hx164_0, hx164_1⟩ := at_T46 HR0_0.out x3_1 p164 q164
     cases e164
     replace hx164_0 := pw_cell_below HB.out hx164_0
     replace hx164_1 := pw_cell_below HB.out hx164_1
     replace p164 := eq_true p164
     replace q164 := eq_true q164
     go_wp2
     go_roundg k1
     case measure => have := HK1.out; omega
     case rel => exact ⟨(wrap64 (x3_1 + 1)), rl_, H', ⟨by have := HK1.out; omega⟩, ⟨pk_ BK163⟩, ⟨pb_ HB⟩⟩
    rw [if_neg c8] at H
    exact absurd H (by simp)
   rw [if_neg c7] at H
   have c7b0 : decide (x3_1 < (l0_0.length : Int)) = false := decide_eq_false c7
   clear c7
   obtain rfl := Option.some.inj H
   have hcz12_0 := cz_ BK163 0 (.slice A0_0 l0_0.length c0_0)
   have hcz12_1 := cz_ BK163 1 (.int .i64 a0_1)
   have hfz12_0 := blk_frozen BK163.out 0
   have hfz12_1 := blk_frozen BK163.out 1
   go_wp2
   go_ret
   exact ⟨er_, pb_ HB⟩
end Go.Proofs.YtoabahlaicgmjaaDoor.X
end
section
namespace Go.Proofs.YtoabahlaicgmjaaDoor.X
open Go.Proofs.YtoabahlaicgmjaaDoor.XW
open Go.RowKit Go.Proofs.YtoabahlaicgmjaaDoorW.PrintWords Go.Proofs.YtoabahlaicgmjaaDoorW.PrintLast Go.Proofs.YtoabahlaicgmjaaDoorW.PrintMore
attribute [local go_sem] max2_int min2_int max_two min_two max_three min_three max_four min_four   -- for this text's walks alone
set_option linter.unusedVariables false
set_option linter.unusedSimpArgs false
theorem eqA26 (d : Nat) (w : World) (x0 y0 : Int) (x1 y1 : Int) (x2 y2 : Int) (x3 y3 : Int) (x4 y4 : ByteArray) :
    (Op.equalIn (d + 2) 26 (.agg #[.int .i64 x0, .int .i64 x1, .int .i64 x2, .int .i64 x3, .string x4]) (.agg #[.int .i64 y0, .int .i64 y1, .int .i64 y2, .int .i64 y3, .string y4])).run Tryd.prog w = .ok (x0 == y0 && (x1 == y1 && (x2 == y2 && (x3 == y3 && (x4.toList == y4.toList))))) w := by
  refine eqA_of Tryd.underlying26 (by kernel_rfl) ?_
  refine eqf_cons (by rfl) (by go_simp; rfl) (by go_simp; rfl) (by go_simp) ?_
  refine eqf_cons (by rfl) (by go_simp; rfl) (by go_simp; rfl) (by go_simp) ?_
  refine eqf_cons (by rfl) (by go_simp; rfl) (by go_simp; rfl) (by go_simp) ?_
  refine eqf_cons (by rfl) (by go_simp; rfl) (by go_simp; rfl) (by go_simp) ?_
  exact eqf_last (by rfl) (by go_simp; rfl) (by go_simp; rfl) (by go_simp)
end Go.Proofs.YtoabahlaicgmjaaDoor.X
end
