-- Texts of this claim joined by merge.py, a program of its author; what this claim does not reach is left out.
import Derived.Test.YtoabahlaicgmjaaDoorMSegmentUndone3
section
namespace Go.Proofs.YtoabahlaicgmjaaDoor.X
open Go.Proofs.YtoabahlaicgmjaaDoor.XW Go.Proofs.YtoabahlaicgmjaaDoor.XS
open Go.RowKit Go.Proofs.YtoabahlaicgmjaaDoorW.PrintWords Go.Proofs.YtoabahlaicgmjaaDoorW.PrintLast Go.Proofs.YtoabahlaicgmjaaDoorW.PrintMore
attribute [local go_sem] max2_int min2_int max_two min_two max_three min_three max_four min_four   -- for this text's walks alone
set_option linter.unusedVariables false
set_option linter.unusedSimpArgs false
attribute [local go_sem high] eqA26
def segment_form.f (a0_0 : Int) (a0_1 : Int) (a0_2 : Int) (a0_3 : Int) (a0_4 : ByteArray) : Option (Int) := if a0_0 = 0 then (if (!(a0_1 == 0) || (!(a0_2 == 0) || (!a0_4.toList.isEmpty))) = true then (some 5) else (some 0)) else (if a0_0 = 1 then (if (!(a0_2 == 0) || (!a0_4.toList.isEmpty)) = true then (some 5) else (some 0)) else (if a0_0 = 2 then (if (!(a0_2 == 0) || (!a0_4.toList.isEmpty)) = true then (some 5) else (some 0)) else (if a0_0 = 3 then (if (!(a0_2 == 0) || (!(a0_3 == 0) || (!a0_4.toList.isEmpty))) = true then (some 5) else (some 0)) else (if a0_0 = 4 then (if (!(a0_3 == 0)) = true then (some 5) else (some 0)) else (some 4)))))
def segment_form.T8 : Bool × List (List Nat × List Nat) := (true, [([], []), ([0], [0]), ([], []), ([2], [2]), ([0, 1], []), ([4, 1, 0, 1], [1, 4]), ([0, 1, 2, 3, 4, 5], []), ([6, 3, 5, 0, 1, 2, 3, 4, 5], [3, 6])])
def segment_form.B8 : List Nat := [0, 1, 0, 4, 3, 19, 63, 127]
theorem segment_form.tab8 : rtab .any (opsOf Tryd.f41 8) = segment_form.T8 := by kernel_rfl
theorem segment_form.bits8 : waitsOk segment_form.T8.2 segment_form.B8 = true := by kernel_rfl
def segment_form.T12 : Bool × List (List Nat × List Nat) := (true, [([], []), ([0], [0]), ([], []), ([2], [2]), ([], []), ([4], [4]), ([0, 1], []), ([6, 1, 0, 1], [1, 6]), ([0, 1, 2, 3, 6, 7], []), ([8, 3, 7, 0, 1, 2, 3, 6, 7], [3, 8]), ([0, 1, 2, 3, 4, 5, 6, 7, 8, 9], []), ([10, 5, 9, 0, 1, 2, 3, 4, 5, 6, 7, 8, 9], [5, 10])])
def segment_form.B12 : List Nat := [0, 1, 0, 4, 0, 16, 3, 67, 207, 463, 1023, 2047]
theorem segment_form.tab12 : rtab .any (opsOf Tryd.f41 12) = segment_form.T12 := by kernel_rfl
theorem segment_form.bits12 : waitsOk segment_form.T12.2 segment_form.B12 = true := by kernel_rfl
set_option maxHeartbeats 8000000 in
set_option maxRecDepth 100000 in
theorem segment_form.calls (a0_0 : Int) (a0_1 : Int) (a0_2 : Int) (a0_3 : Int) (a0_4 : ByteArray) (r : Int) (w : World) (h : segment_form.f a0_0 a0_1 a0_2 a0_3 a0_4 = some r) :
  Calls Tryd.prog 41 #[.agg #[.int .i64 a0_0, .int .i64 a0_1, .int .i64 a0_2, .int .i64 a0_3, .string a0_4]] w fun e w' => e = .returned (.int .i64 r) ∧ Below w.heap.size w w' := by
 have hu26 := Tryd.underlying26
 have HB := Aside0.mk (Below.refl w.heap.size w)
 have H : (if a0_0 = 0 then (if (!(a0_1 == 0) || (!(a0_2 == 0) || (!a0_4.toList.isEmpty))) = true then (some 5) else (some 0)) else (if a0_0 = 1 then (if (!(a0_2 == 0) || (!a0_4.toList.isEmpty)) = true then (some 5) else (some 0)) else (if a0_0 = 2 then (if (!(a0_2 == 0) || (!a0_4.toList.isEmpty)) = true then (some 5) else (some 0)) else (if a0_0 = 3 then (if (!(a0_2 == 0) || (!(a0_3 == 0) || (!a0_4.toList.isEmpty))) = true then (some 5) else (some 0)) else (if a0_0 = 4 then (if (!(a0_3 == 0)) = true then (some 5) else (some 0)) else (some 4)))))) = some r := h
 clear h
 by_cases c2 : a0_0 = 0
 ·
  rw [if_pos c2] at H
  have c2b0 : (a0_0 == 0) = true := beq_iff_eq.mpr c2
  have c2b1 : (a0_0 != 0) = false := bne_eq_false_iff_eq.mpr c2
  clear c2
  by_cases c3 : (!(a0_1 == 0) || (!(a0_2 == 0) || (!a0_4.toList.isEmpty))) = true
  ·
   rw [if_pos c3] at H
   have c3b0 : (!(a0_1 == 0) || (!(a0_2 == 0) || (!a0_4.toList.isEmpty))) = true := c3
   clear c3
   obtain rfl := Option.some.inj H
   go_enter Tryd.func41, Tryd.ntmps41
   go_wp2_with (first | ((with_reducible refine gate_dst (N := 1) rfl ?_); refine bx_ 1 #[.int .i64 a0_0, .int .i64 a0_1, .int .i64 a0_2, .int .i64 a0_3, .string a0_4] 26 ?_; intro gb165 hg w4 hbox hb; have BK165 := Aside0.mk (hbox); have GW165 := gw_ hg HB; have GE165 := gw_ hg HB; replace HB := sb_ HB hb; clear hb hbox hg; have hcz5_0 := cz_ BK165 0 (.int .i64 a0_0); have hcz5_1 := cz_ BK165 1 (.int .i64 a0_1); have hcz5_2 := cz_ BK165 2 (.int .i64 a0_2); have hcz5_3 := cz_ BK165 3 (.int .i64 a0_3); have hcz5_4 := cz_ BK165 4 (.string a0_4); have hfz5_0 := blk_frozen BK165.out 0; have hfz5_1 := blk_frozen BK165.out 1; have hfz5_2 := blk_frozen BK165.out 2; have hfz5_3 := blk_frozen BK165.out 3; have hfz5_4 := blk_frozen BK165.out 4) | ((with_reducible refine gate_dst (N := 3) rfl ?_); refine bx_ 3 #[.int .i64 0, .int .i64 0, .int .i64 0, .int .i64 0, .string (⟨#[]⟩ : ByteArray)] 26 ?_; intro gb166 hg w6 hbox hb; have BK166 := Aside0.mk (hbox); have GW166 := gw_ hg HB; have GE166 := gw_ hg HB; replace HB := sb_ HB hb; have NB165_166 := nl_ hg BK165; have NB166_165 := ng_ hg BK165; replace BK165 := kb_ BK165 hb; clear hb hbox hg; have hnb7 := NB166_165.out; have hnc7 := NB165_166.out; have hcz8_0 := cz_ BK166 0 (.int .i64 0); have hcz8_1 := cz_ BK166 1 (.int .i64 0); have hcz8_2 := cz_ BK166 2 (.int .i64 0); have hcz8_3 := cz_ BK166 3 (.int .i64 0); have hcz8_4 := cz_ BK166 4 (.string (⟨#[]⟩ : ByteArray)); have hfz8_0 := blk_frozen BK166.out 0; have hfz8_1 := blk_frozen BK166.out 1; have hfz8_2 := blk_frozen BK166.out 2; have hfz8_3 := blk_frozen BK166.out 3; have hfz8_4 := blk_frozen BK166.out 4) | ((with_reducible refine gate_store (t := 26) (p := 3) rfl ?_); refine store_event (t := 26) (p := 3) (v := ?vo_w9) (w1 := (((((w6.setCell ⟨gb166, 0, none⟩ (.int .i64 a0_0)).setCell ⟨gb166, 1, none⟩ (.int .i64 0)).setCell ⟨gb166, 2, none⟩ (.int .i64 0)).setCell ⟨gb166, 3, none⟩ (.int .i64 0)).setCell ⟨gb166, 4, none⟩ (.string (⟨#[]⟩ : ByteArray)))) ?hg ?ho ?hn ?hr ?_; (case ho => rfl); (case hg => rfl); (case hn => rfl); (case hr => first | (go_simp; done) | (go_simp; rfl)); intro w9 hw; have n0_ : Aside0 (w9.heap[gb165]? = some (.cells #[.int .i64 a0_0, .int .i64 a0_1, .int .i64 a0_2, .int .i64 a0_3, .string a0_4] 26 (0, 0))) := ⟨(by rw [hw]; exact (by (with_reducible repeat (first | refine blk_drewN ?_ _ | refine blk_drew ?_ | refine blk_alloc ?_ _)); refine blk_far ?_ NB165_166.out _; (with_reducible repeat (first | refine blk_drewN ?_ _ | refine blk_drew ?_ | refine blk_alloc ?_ _)); refine blk_far ?_ NB165_166.out _; (with_reducible repeat (first | refine blk_drewN ?_ _ | refine blk_drew ?_ | refine blk_alloc ?_ _)); refine blk_far ?_ NB165_166.out _; (with_reducible repeat (first | refine blk_drewN ?_ _ | refine blk_drew ?_ | refine blk_alloc ?_ _)); refine blk_far ?_ NB165_166.out _; (with_reducible repeat (first | refine blk_drewN ?_ _ | refine blk_drew ?_ | refine blk_alloc ?_ _)); refine blk_far ?_ NB165_166.out _; (with_reducible repeat (first | refine blk_drewN ?_ _ | refine blk_drew ?_ | refine blk_alloc ?_ _)); exact BK165.out))⟩; have n1_ : Aside0 (w9.heap[gb166]? = some (.cells #[.int .i64 a0_0, .int .i64 0, .int .i64 0, .int .i64 0, .string (⟨#[]⟩ : ByteArray)] 26 (0, 0))) := ⟨(by rw [hw]; exact (bq_ BK166))⟩; have n2_ : Aside0 (Below w.heap.size w w9) := ⟨(by rw [hw]; exact (pb_ HB))⟩; clear hw; clear BK165; clear BK166; clear HB; have BK165 := n0_; have BK166 := n1_; have HB := n2_; clear n0_ n1_ n2_; have hcz10_0 := cz_ BK165 0 (.int .i64 a0_0); have hcz10_1 := cz_ BK165 1 (.int .i64 a0_1); have hcz10_2 := cz_ BK165 2 (.int .i64 a0_2); have hcz10_3 := cz_ BK165 3 (.int .i64 a0_3); have hcz10_4 := cz_ BK165 4 (.string a0_4); have hfz10_0 := blk_frozen BK165.out 0; have hfz10_1 := blk_frozen BK165.out 1; have hfz10_2 := blk_frozen BK165.out 2; have hfz10_3 := blk_frozen BK165.out 3; have hfz10_4 := blk_frozen BK165.out 4; have hcz11_0 := cz_ BK166 0 (.int .i64 a0_0); have hcz11_1 := cz_ BK166 1 (.int .i64 0); have hcz11_2 := cz_ BK166 2 (.int .i64 0); have hcz11_3 := cz_ BK166 3 (.int .i64 0); have hcz11_4 := cz_ BK166 4 (.string (⟨#[]⟩ : ByteArray)); have hfz11_0 := blk_frozen BK166.out 0; have hfz11_1 := blk_frozen BK166.out 1; have hfz11_2 := blk_frozen BK166.out 2; have hfz11_3 := blk_frozen BK166.out 3; have hfz11_4 := blk_frozen BK166.out 4))
   go_ret
   exact ⟨er_, pb_ HB⟩
  rw [if_neg c3] at H
  have c3b0 : (!(a0_1 == 0) || (!(a0_2 == 0) || (!a0_4.toList.isEmpty))) = false := by simpa using c3
  clear c3
  obtain rfl := Option.some.inj H
  go_enter Tryd.func41, Tryd.ntmps41
  go_wp2_with (first | ((with_reducible refine gate_dst (N := 1) rfl ?_); refine bx_ 1 #[.int .i64 a0_0, .int .i64 a0_1, .int .i64 a0_2, .int .i64 a0_3, .string a0_4] 26 ?_; intro gb165 hg w12 hbox hb; have BK165 := Aside0.mk (hbox); have GW165 := gw_ hg HB; have GE165 := gw_ hg HB; replace HB := sb_ HB hb; clear hb hbox hg; have hcz13_0 := cz_ BK165 0 (.int .i64 a0_0); have hcz13_1 := cz_ BK165 1 (.int .i64 a0_1); have hcz13_2 := cz_ BK165 2 (.int .i64 a0_2); have hcz13_3 := cz_ BK165 3 (.int .i64 a0_3); have hcz13_4 := cz_ BK165 4 (.string a0_4); have hfz13_0 := blk_frozen BK165.out 0; have hfz13_1 := blk_frozen BK165.out 1; have hfz13_2 := blk_frozen BK165.out 2; have hfz13_3 := blk_frozen BK165.out 3; have hfz13_4 := blk_frozen BK165.out 4) | ((with_reducible refine gate_dst (N := 3) rfl ?_); refine bx_ 3 #[.int .i64 0, .int .i64 0, .int .i64 0, .int .i64 0, .string (⟨#[]⟩ : ByteArray)] 26 ?_; intro gb166 hg w14 hbox hb; have BK166 := Aside0.mk (hbox); have GW166 := gw_ hg HB; have GE166 := gw_ hg HB; replace HB := sb_ HB hb; have NB165_166 := nl_ hg BK165; have NB166_165 := ng_ hg BK165; replace BK165 := kb_ BK165 hb; clear hb hbox hg; have hnb15 := NB166_165.out; have hnc15 := NB165_166.out; have hcz16_0 := cz_ BK166 0 (.int .i64 0); have hcz16_1 := cz_ BK166 1 (.int .i64 0); have hcz16_2 := cz_ BK166 2 (.int .i64 0); have hcz16_3 := cz_ BK166 3 (.int .i64 0); have hcz16_4 := cz_ BK166 4 (.string (⟨#[]⟩ : ByteArray)); have hfz16_0 := blk_frozen BK166.out 0; have hfz16_1 := blk_frozen BK166.out 1; have hfz16_2 := blk_frozen BK166.out 2; have hfz16_3 := blk_frozen BK166.out 3; have hfz16_4 := blk_frozen BK166.out 4) | ((with_reducible refine gate_store (t := 26) (p := 3) rfl ?_); refine store_event (t := 26) (p := 3) (v := ?vo_w17) (w1 := (((((w14.setCell ⟨gb166, 0, none⟩ (.int .i64 a0_0)).setCell ⟨gb166, 1, none⟩ (.int .i64 0)).setCell ⟨gb166, 2, none⟩ (.int .i64 0)).setCell ⟨gb166, 3, none⟩ (.int .i64 0)).setCell ⟨gb166, 4, none⟩ (.string (⟨#[]⟩ : ByteArray)))) ?hg ?ho ?hn ?hr ?_; (case ho => rfl); (case hg => rfl); (case hn => rfl); (case hr => first | (go_simp; done) | (go_simp; rfl)); intro w17 hw; have n0_ : Aside0 (w17.heap[gb165]? = some (.cells #[.int .i64 a0_0, .int .i64 a0_1, .int .i64 a0_2, .int .i64 a0_3, .string a0_4] 26 (0, 0))) := ⟨(by rw [hw]; exact (by (with_reducible repeat (first | refine blk_drewN ?_ _ | refine blk_drew ?_ | refine blk_alloc ?_ _)); refine blk_far ?_ NB165_166.out _; (with_reducible repeat (first | refine blk_drewN ?_ _ | refine blk_drew ?_ | refine blk_alloc ?_ _)); refine blk_far ?_ NB165_166.out _; (with_reducible repeat (first | refine blk_drewN ?_ _ | refine blk_drew ?_ | refine blk_alloc ?_ _)); refine blk_far ?_ NB165_166.out _; (with_reducible repeat (first | refine blk_drewN ?_ _ | refine blk_drew ?_ | refine blk_alloc ?_ _)); refine blk_far ?_ NB165_166.out _; (with_reducible repeat (first | refine blk_drewN ?_ _ | refine blk_drew ?_ | refine blk_alloc ?_ _)); refine blk_far ?_ NB165_166.out _; (with_reducible repeat (first | refine blk_drewN ?_ _ | refine blk_drew ?_ | refine blk_alloc ?_ _)); exact BK165.out))⟩; have n1_ : Aside0 (w17.heap[gb166]? = some (.cells #[.int .i64 a0_0, .int .i64 0, .int .i64 0, .int .i64 0, .string (⟨#[]⟩ : ByteArray)] 26 (0, 0))) := ⟨(by rw [hw]; exact (bq_ BK166))⟩; have n2_ : Aside0 (Below w.heap.size w w17) := ⟨(by rw [hw]; exact (pb_ HB))⟩; clear hw; clear BK165; clear BK166; clear HB; have BK165 := n0_; have BK166 := n1_; have HB := n2_; clear n0_ n1_ n2_; have hcz18_0 := cz_ BK165 0 (.int .i64 a0_0); have hcz18_1 := cz_ BK165 1 (.int .i64 a0_1); have hcz18_2 := cz_ BK165 2 (.int .i64 a0_2); have hcz18_3 := cz_ BK165 3 (.int .i64 a0_3); have hcz18_4 := cz_ BK165 4 (.string a0_4); have hfz18_0 := blk_frozen BK165.out 0; have hfz18_1 := blk_frozen BK165.out 1; have hfz18_2 := blk_frozen BK165.out 2; have hfz18_3 := blk_frozen BK165.out 3; have hfz18_4 := blk_frozen BK165.out 4; have hcz19_0 := cz_ BK166 0 (.int .i64 a0_0); have hcz19_1 := cz_ BK166 1 (.int .i64 0); have hcz19_2 := cz_ BK166 2 (.int .i64 0); have hcz19_3 := cz_ BK166 3 (.int .i64 0); have hcz19_4 := cz_ BK166 4 (.string (⟨#[]⟩ : ByteArray)); have hfz19_0 := blk_frozen BK166.out 0; have hfz19_1 := blk_frozen BK166.out 1; have hfz19_2 := blk_frozen BK166.out 2; have hfz19_3 := blk_frozen BK166.out 3; have hfz19_4 := blk_frozen BK166.out 4))
  go_ret
  exact ⟨er_, pb_ HB⟩
 rw [if_neg c2] at H
 have c2b0 : (a0_0 == 0) = false := beq_eq_false_iff_ne.mpr c2
 have c2b1 : (a0_0 != 0) = true := bne_iff_ne.mpr c2
 by_cases c20 : a0_0 = 1
 ·
  rw [if_pos c20] at H
  have c20b0 : (a0_0 == 1) = true := beq_iff_eq.mpr c20
  have c20b1 : (a0_0 != 1) = false := bne_eq_false_iff_eq.mpr c20
  clear c20
  by_cases c21 : (!(a0_2 == 0) || (!a0_4.toList.isEmpty)) = true
  ·
   rw [if_pos c21] at H
   have c21b0 : (!(a0_2 == 0) || (!a0_4.toList.isEmpty)) = true := c21
   clear c21
   obtain rfl := Option.some.inj H
   go_enter Tryd.func41, Tryd.ntmps41
   try go_wp2_with (first | ((with_reducible refine gate_dst (N := 1) rfl ?_); refine bx_ 1 #[.int .i64 a0_0, .int .i64 a0_1, .int .i64 a0_2, .int .i64 a0_3, .string a0_4] 26 ?_; intro gb165 hg w22 hbox hb; have BK165 := Aside0.mk (hbox); have GW165 := gw_ hg HB; have GE165 := gw_ hg HB; replace HB := sb_ HB hb; clear hb hbox hg; have hcz23_0 := cz_ BK165 0 (.int .i64 a0_0); have hcz23_1 := cz_ BK165 1 (.int .i64 a0_1); have hcz23_2 := cz_ BK165 2 (.int .i64 a0_2); have hcz23_3 := cz_ BK165 3 (.int .i64 a0_3); have hcz23_4 := cz_ BK165 4 (.string a0_4); have hfz23_0 := blk_frozen BK165.out 0; have hfz23_1 := blk_frozen BK165.out 1; have hfz23_2 := blk_frozen BK165.out 2; have hfz23_3 := blk_frozen BK165.out 3; have hfz23_4 := blk_frozen BK165.out 4) | ((with_reducible refine gate_dst (N := 3) rfl ?_); refine bx_ 3 #[.int .i64 0, .int .i64 0, .int .i64 0, .int .i64 0, .string (⟨#[]⟩ : ByteArray)] 26 ?_; intro gb166 hg w24 hbox hb; have BK166 := Aside0.mk (hbox); have GW166 := gw_ hg HB; have GE166 := gw_ hg HB; replace HB := sb_ HB hb; have NB165_166 := nl_ hg BK165; have NB166_165 := ng_ hg BK165; replace BK165 := kb_ BK165 hb; clear hb hbox hg; have hnb25 := NB166_165.out; have hnc25 := NB165_166.out; have hcz26_0 := cz_ BK166 0 (.int .i64 0); have hcz26_1 := cz_ BK166 1 (.int .i64 0); have hcz26_2 := cz_ BK166 2 (.int .i64 0); have hcz26_3 := cz_ BK166 3 (.int .i64 0); have hcz26_4 := cz_ BK166 4 (.string (⟨#[]⟩ : ByteArray)); have hfz26_0 := blk_frozen BK166.out 0; have hfz26_1 := blk_frozen BK166.out 1; have hfz26_2 := blk_frozen BK166.out 2; have hfz26_3 := blk_frozen BK166.out 3; have hfz26_4 := blk_frozen BK166.out 4; have hcz27_0 := cz_ BK165 0 (.int .i64 a0_0); have hcz27_1 := cz_ BK165 1 (.int .i64 a0_1); have hcz27_2 := cz_ BK165 2 (.int .i64 a0_2); have hcz27_3 := cz_ BK165 3 (.int .i64 a0_3); have hcz27_4 := cz_ BK165 4 (.string a0_4); have hfz27_0 := blk_frozen BK165.out 0; have hfz27_1 := blk_frozen BK165.out 1; have hfz27_2 := blk_frozen BK165.out 2; have hfz27_3 := blk_frozen BK165.out 3; have hfz27_4 := blk_frozen BK165.out 4))
   have n0_ : Aside0 ((((((w24.setCell ⟨gb166, 0, none⟩ (.int .i64 a0_0)).setCell ⟨gb166, 1, none⟩ (.int .i64 0)).setCell ⟨gb166, 2, none⟩ (.int .i64 0)).setCell ⟨gb166, 3, none⟩ (.int .i64 0)).setCell ⟨gb166, 4, none⟩ (.string (⟨#[]⟩ : ByteArray))).heap[gb165]? = some (.cells #[.int .i64 a0_0, .int .i64 a0_1, .int .i64 a0_2, .int .i64 a0_3, .string a0_4] 26 (0, 0))) := ⟨by (with_reducible repeat (first | refine blk_drewN ?_ _ | refine blk_drew ?_ | refine blk_alloc ?_ _)); refine blk_far ?_ NB165_166.out _; (with_reducible repeat (first | refine blk_drewN ?_ _ | refine blk_drew ?_ | refine blk_alloc ?_ _)); refine blk_far ?_ NB165_166.out _; (with_reducible repeat (first | refine blk_drewN ?_ _ | refine blk_drew ?_ | refine blk_alloc ?_ _)); refine blk_far ?_ NB165_166.out _; (with_reducible repeat (first | refine blk_drewN ?_ _ | refine blk_drew ?_ | refine blk_alloc ?_ _)); refine blk_far ?_ NB165_166.out _; (with_reducible repeat (first | refine blk_drewN ?_ _ | refine blk_drew ?_ | refine blk_alloc ?_ _)); refine blk_far ?_ NB165_166.out _; (with_reducible repeat (first | refine blk_drewN ?_ _ | refine blk_drew ?_ | refine blk_alloc ?_ _)); exact BK165.out⟩
   have n1_ : Aside0 ((((((w24.setCell ⟨gb166, 0, none⟩ (.int .i64 a0_0)).setCell ⟨gb166, 1, none⟩ (.int .i64 0)).setCell ⟨gb166, 2, none⟩ (.int .i64 0)).setCell ⟨gb166, 3, none⟩ (.int .i64 0)).setCell ⟨gb166, 4, none⟩ (.string (⟨#[]⟩ : ByteArray))).heap[gb166]? = some (.cells #[.int .i64 a0_0, .int .i64 0, .int .i64 0, .int .i64 0, .string (⟨#[]⟩ : ByteArray)] 26 (0, 0))) := ⟨bq_ BK166⟩
   have n2_ : Aside0 (Below w.heap.size w (((((w24.setCell ⟨gb166, 0, none⟩ (.int .i64 a0_0)).setCell ⟨gb166, 1, none⟩ (.int .i64 0)).setCell ⟨gb166, 2, none⟩ (.int .i64 0)).setCell ⟨gb166, 3, none⟩ (.int .i64 0)).setCell ⟨gb166, 4, none⟩ (.string (⟨#[]⟩ : ByteArray)))) := ⟨pb_ HB⟩
   (try clear BK165)
   (try clear BK166)
   (try clear HB)
   generalize (((((w24.setCell ⟨gb166, 0, none⟩ (.int .i64 a0_0)).setCell ⟨gb166, 1, none⟩ (.int .i64 0)).setCell ⟨gb166, 2, none⟩ (.int .i64 0)).setCell ⟨gb166, 3, none⟩ (.int .i64 0)).setCell ⟨gb166, 4, none⟩ (.string (⟨#[]⟩ : ByteArray))) = w28 at n0_ n1_ n2_ ⊢
   have BK165 := n0_
   have BK166 := n1_
   have HB := n2_
   clear n0_ n1_ n2_
   replace BK165 := Aside0.mk (blk_drew BK165.out)
   replace BK166 := Aside0.mk (blk_drew BK166.out)
   replace HB := Aside0.mk (below_drew1 HB.out)
   refine start_ (n := 8) (S := fun w' => w'.cell? ⟨gb165, 0, none⟩ = some (.int .i64 a0_0) ∧ w'.cell? ⟨gb165, 1, none⟩ = some (.int .i64 a0_1) ∧ w'.cell? ⟨gb165, 2, none⟩ = some (.int .i64 a0_2) ∧ w'.cell? ⟨gb165, 3, none⟩ = some (.int .i64 a0_3) ∧ w'.cell? ⟨gb165, 4, none⟩ = some (.string a0_4)) (ds := []) #[false, false, false, false, false, false, false, false] (by kernel_rfl) rfl rfl ⟨cy_ BK165 0, cy_ BK165 1, cy_ BK165 2, cy_ BK165 3, cy_ BK165 4⟩ (fun hHeld => ?_); refine with_tabW segment_form.tab8 segment_form.bits8 (fun HT_ HW_ => ?_)
   generalize w28.drew = w29 at BK165 BK166 HB hHeld ⊢
   refine pu_ 0 17 HT_ ?_
   refine pu_ 2 19 HT_ ?_
   refine tk_ 1 18 HT_ HW_ hHeld rfl (Or.inl ⟨by rfl, by rintro w' ⟨s0, s1, s2, s3, s4⟩; go_simp; with_reducible rfl⟩) ?_
   refine pu_ 4 21 HT_ ?_
   refine tk_ 3 20 HT_ HW_ hHeld rfl (Or.inl ⟨by rfl, by rintro w' ⟨s0, s1, s2, s3, s4⟩; go_simp; with_reducible rfl⟩) ?_
   refine one_ (i := 5) (N := none) #[true, true, true, true, true, true, false, false] rfl rfl (one_of HT_.out (by kernel_rfl)) (by decide) (fun K hK => ?_)
   have hs30 : w29.cell? ⟨gb166, 1, none⟩ = some (.int .i64 0) := (blk_cell BK166.out 1).trans rfl
   have hfs30 := blk_frozen BK166.out 1
   have hns30_0 := NB165_166.out
   have hms30_0 := NB166_165.out
   refine skip_ (w1 := ?_) (by rfl) rfl ?_ ?_
   rotate_left
   ·
    go_simp
    rfl
   refine hK.out _ _ ⟨((cell_far (p := ⟨gb166, _, none⟩) NB165_166.out _).trans (hHeld.1)), ((cell_far (p := ⟨gb166, _, none⟩) NB165_166.out _).trans (hHeld.2.1)), ((cell_far (p := ⟨gb166, _, none⟩) NB165_166.out _).trans (hHeld.2.2.1)), ((cell_far (p := ⟨gb166, _, none⟩) NB165_166.out _).trans (hHeld.2.2.2.1)), ((cell_far (p := ⟨gb166, _, none⟩) NB165_166.out _).trans (hHeld.2.2.2.2))⟩ (fun hHeld => ?_)
   clear hK K
   refine pu_ 6 22 HT_ ?_
   refine one_ (i := 7) (N := none) #[true, true, true, true, true, true, true, true] rfl rfl (one_of HT_.out (by kernel_rfl)) (by decide) (fun K hK => ?_)
   have hs31 : w29.cell? ⟨gb166, 3, none⟩ = some (.int .i64 0) := (blk_cell BK166.out 3).trans rfl
   have hfs31 := blk_frozen BK166.out 3
   have hns31_0 := NB165_166.out
   have hms31_0 := NB166_165.out
   refine skip_ (w1 := ?_) (by rfl) rfl ?_ ?_
   rotate_left
   ·
    go_simp
    rfl
   refine hK.out _ _ ⟨((cell_far (p := ⟨gb166, _, none⟩) NB165_166.out _).trans (hHeld.1)), ((cell_far (p := ⟨gb166, _, none⟩) NB165_166.out _).trans (hHeld.2.1)), ((cell_far (p := ⟨gb166, _, none⟩) NB165_166.out _).trans (hHeld.2.2.1)), ((cell_far (p := ⟨gb166, _, none⟩) NB165_166.out _).trans (hHeld.2.2.2.1)), ((cell_far (p := ⟨gb166, _, none⟩) NB165_166.out _).trans (hHeld.2.2.2.2))⟩ (fun hHeld => ?_)
   clear hK K
   refine done_ (done_of HT_.out (by kernel_rfl)) ?_
   have hcz32_0 := cz_ BK165 0 (.int .i64 a0_0)
   have hcz32_1 := cz_ BK165 1 (.int .i64 a0_1)
   have hcz32_2 := cz_ BK165 2 (.int .i64 a0_2)
   have hcz32_3 := cz_ BK165 3 (.int .i64 a0_3)
   have hcz32_4 := cz_ BK165 4 (.string a0_4)
   have hfz32_0 := blk_frozen BK165.out 0
   have hfz32_1 := blk_frozen BK165.out 1
   have hfz32_2 := blk_frozen BK165.out 2
   have hfz32_3 := blk_frozen BK165.out 3
   have hfz32_4 := blk_frozen BK165.out 4
   have hcz33_0 := cz_ BK166 0 (.int .i64 a0_0)
   have hcz33_1 := cz_ BK166 1 (.int .i64 0)
   have hcz33_2 := cz_ BK166 2 (.int .i64 0)
   have hcz33_3 := cz_ BK166 3 (.int .i64 0)
   have hcz33_4 := cz_ BK166 4 (.string (⟨#[]⟩ : ByteArray))
   have hfz33_0 := blk_frozen BK166.out 0
   have hfz33_1 := blk_frozen BK166.out 1
   have hfz33_2 := blk_frozen BK166.out 2
   have hfz33_3 := blk_frozen BK166.out 3
   have hfz33_4 := blk_frozen BK166.out 4
   try go_wp2
   go_ret
   exact ⟨er_, pb_ HB⟩
  rw [if_neg c21] at H
  have c21b0 : (!(a0_2 == 0) || (!a0_4.toList.isEmpty)) = false := by simpa using c21
  clear c21
  obtain rfl := Option.some.inj H
  go_enter Tryd.func41, Tryd.ntmps41
  try go_wp2_with (first | ((with_reducible refine gate_dst (N := 1) rfl ?_); refine bx_ 1 #[.int .i64 a0_0, .int .i64 a0_1, .int .i64 a0_2, .int .i64 a0_3, .string a0_4] 26 ?_; intro gb165 hg w34 hbox hb; have BK165 := Aside0.mk (hbox); have GW165 := gw_ hg HB; have GE165 := gw_ hg HB; replace HB := sb_ HB hb; clear hb hbox hg; have hcz35_0 := cz_ BK165 0 (.int .i64 a0_0); have hcz35_1 := cz_ BK165 1 (.int .i64 a0_1); have hcz35_2 := cz_ BK165 2 (.int .i64 a0_2); have hcz35_3 := cz_ BK165 3 (.int .i64 a0_3); have hcz35_4 := cz_ BK165 4 (.string a0_4); have hfz35_0 := blk_frozen BK165.out 0; have hfz35_1 := blk_frozen BK165.out 1; have hfz35_2 := blk_frozen BK165.out 2; have hfz35_3 := blk_frozen BK165.out 3; have hfz35_4 := blk_frozen BK165.out 4) | ((with_reducible refine gate_dst (N := 3) rfl ?_); refine bx_ 3 #[.int .i64 0, .int .i64 0, .int .i64 0, .int .i64 0, .string (⟨#[]⟩ : ByteArray)] 26 ?_; intro gb166 hg w36 hbox hb; have BK166 := Aside0.mk (hbox); have GW166 := gw_ hg HB; have GE166 := gw_ hg HB; replace HB := sb_ HB hb; have NB165_166 := nl_ hg BK165; have NB166_165 := ng_ hg BK165; replace BK165 := kb_ BK165 hb; clear hb hbox hg; have hnb37 := NB166_165.out; have hnc37 := NB165_166.out; have hcz38_0 := cz_ BK166 0 (.int .i64 0); have hcz38_1 := cz_ BK166 1 (.int .i64 0); have hcz38_2 := cz_ BK166 2 (.int .i64 0); have hcz38_3 := cz_ BK166 3 (.int .i64 0); have hcz38_4 := cz_ BK166 4 (.string (⟨#[]⟩ : ByteArray)); have hfz38_0 := blk_frozen BK166.out 0; have hfz38_1 := blk_frozen BK166.out 1; have hfz38_2 := blk_frozen BK166.out 2; have hfz38_3 := blk_frozen BK166.out 3; have hfz38_4 := blk_frozen BK166.out 4; have hcz39_0 := cz_ BK165 0 (.int .i64 a0_0); have hcz39_1 := cz_ BK165 1 (.int .i64 a0_1); have hcz39_2 := cz_ BK165 2 (.int .i64 a0_2); have hcz39_3 := cz_ BK165 3 (.int .i64 a0_3); have hcz39_4 := cz_ BK165 4 (.string a0_4); have hfz39_0 := blk_frozen BK165.out 0; have hfz39_1 := blk_frozen BK165.out 1; have hfz39_2 := blk_frozen BK165.out 2; have hfz39_3 := blk_frozen BK165.out 3; have hfz39_4 := blk_frozen BK165.out 4))
  have n0_ : Aside0 ((((((w36.setCell ⟨gb166, 0, none⟩ (.int .i64 a0_0)).setCell ⟨gb166, 1, none⟩ (.int .i64 0)).setCell ⟨gb166, 2, none⟩ (.int .i64 0)).setCell ⟨gb166, 3, none⟩ (.int .i64 0)).setCell ⟨gb166, 4, none⟩ (.string (⟨#[]⟩ : ByteArray))).heap[gb165]? = some (.cells #[.int .i64 a0_0, .int .i64 a0_1, .int .i64 a0_2, .int .i64 a0_3, .string a0_4] 26 (0, 0))) := ⟨by (with_reducible repeat (first | refine blk_drewN ?_ _ | refine blk_drew ?_ | refine blk_alloc ?_ _)); refine blk_far ?_ NB165_166.out _; (with_reducible repeat (first | refine blk_drewN ?_ _ | refine blk_drew ?_ | refine blk_alloc ?_ _)); refine blk_far ?_ NB165_166.out _; (with_reducible repeat (first | refine blk_drewN ?_ _ | refine blk_drew ?_ | refine blk_alloc ?_ _)); refine blk_far ?_ NB165_166.out _; (with_reducible repeat (first | refine blk_drewN ?_ _ | refine blk_drew ?_ | refine blk_alloc ?_ _)); refine blk_far ?_ NB165_166.out _; (with_reducible repeat (first | refine blk_drewN ?_ _ | refine blk_drew ?_ | refine blk_alloc ?_ _)); refine blk_far ?_ NB165_166.out _; (with_reducible repeat (first | refine blk_drewN ?_ _ | refine blk_drew ?_ | refine blk_alloc ?_ _)); exact BK165.out⟩
  have n1_ : Aside0 ((((((w36.setCell ⟨gb166, 0, none⟩ (.int .i64 a0_0)).setCell ⟨gb166, 1, none⟩ (.int .i64 0)).setCell ⟨gb166, 2, none⟩ (.int .i64 0)).setCell ⟨gb166, 3, none⟩ (.int .i64 0)).setCell ⟨gb166, 4, none⟩ (.string (⟨#[]⟩ : ByteArray))).heap[gb166]? = some (.cells #[.int .i64 a0_0, .int .i64 0, .int .i64 0, .int .i64 0, .string (⟨#[]⟩ : ByteArray)] 26 (0, 0))) := ⟨bq_ BK166⟩
  have n2_ : Aside0 (Below w.heap.size w (((((w36.setCell ⟨gb166, 0, none⟩ (.int .i64 a0_0)).setCell ⟨gb166, 1, none⟩ (.int .i64 0)).setCell ⟨gb166, 2, none⟩ (.int .i64 0)).setCell ⟨gb166, 3, none⟩ (.int .i64 0)).setCell ⟨gb166, 4, none⟩ (.string (⟨#[]⟩ : ByteArray)))) := ⟨pb_ HB⟩
  (try clear BK165)
  (try clear BK166)
  (try clear HB)
  generalize (((((w36.setCell ⟨gb166, 0, none⟩ (.int .i64 a0_0)).setCell ⟨gb166, 1, none⟩ (.int .i64 0)).setCell ⟨gb166, 2, none⟩ (.int .i64 0)).setCell ⟨gb166, 3, none⟩ (.int .i64 0)).setCell ⟨gb166, 4, none⟩ (.string (⟨#[]⟩ : ByteArray))) = w40 at n0_ n1_ n2_ ⊢
  have BK165 := n0_
  have BK166 := n1_
  have HB := n2_
  clear n0_ n1_ n2_
  replace BK165 := Aside0.mk (blk_drew BK165.out)
  replace BK166 := Aside0.mk (blk_drew BK166.out)
  replace HB := Aside0.mk (below_drew1 HB.out)
  refine start_ (n := 8) (S := fun w' => w'.cell? ⟨gb165, 0, none⟩ = some (.int .i64 a0_0) ∧ w'.cell? ⟨gb165, 1, none⟩ = some (.int .i64 a0_1) ∧ w'.cell? ⟨gb165, 2, none⟩ = some (.int .i64 a0_2) ∧ w'.cell? ⟨gb165, 3, none⟩ = some (.int .i64 a0_3) ∧ w'.cell? ⟨gb165, 4, none⟩ = some (.string a0_4)) (ds := []) #[false, false, false, false, false, false, false, false] (by kernel_rfl) rfl rfl ⟨cy_ BK165 0, cy_ BK165 1, cy_ BK165 2, cy_ BK165 3, cy_ BK165 4⟩ (fun hHeld => ?_); refine with_tabW segment_form.tab8 segment_form.bits8 (fun HT_ HW_ => ?_)
  generalize w40.drew = w41 at BK165 BK166 HB hHeld ⊢
  refine pu_ 0 17 HT_ ?_
  refine pu_ 2 19 HT_ ?_
  refine tk_ 1 18 HT_ HW_ hHeld rfl (Or.inl ⟨by rfl, by rintro w' ⟨s0, s1, s2, s3, s4⟩; go_simp; with_reducible rfl⟩) ?_
  refine pu_ 4 21 HT_ ?_
  refine tk_ 3 20 HT_ HW_ hHeld rfl (Or.inl ⟨by rfl, by rintro w' ⟨s0, s1, s2, s3, s4⟩; go_simp; with_reducible rfl⟩) ?_
  refine one_ (i := 5) (N := none) #[true, true, true, true, true, true, false, false] rfl rfl (one_of HT_.out (by kernel_rfl)) (by decide) (fun K hK => ?_)
  have hs42 : w41.cell? ⟨gb166, 1, none⟩ = some (.int .i64 0) := (blk_cell BK166.out 1).trans rfl
  have hfs42 := blk_frozen BK166.out 1
  have hns42_0 := NB165_166.out
  have hms42_0 := NB166_165.out
  refine skip_ (w1 := ?_) (by rfl) rfl ?_ ?_
  rotate_left
  ·
   go_simp
   rfl
  refine hK.out _ _ ⟨((cell_far (p := ⟨gb166, _, none⟩) NB165_166.out _).trans (hHeld.1)), ((cell_far (p := ⟨gb166, _, none⟩) NB165_166.out _).trans (hHeld.2.1)), ((cell_far (p := ⟨gb166, _, none⟩) NB165_166.out _).trans (hHeld.2.2.1)), ((cell_far (p := ⟨gb166, _, none⟩) NB165_166.out _).trans (hHeld.2.2.2.1)), ((cell_far (p := ⟨gb166, _, none⟩) NB165_166.out _).trans (hHeld.2.2.2.2))⟩ (fun hHeld => ?_)
  clear hK K
  refine pu_ 6 22 HT_ ?_
  refine one_ (i := 7) (N := none) #[true, true, true, true, true, true, true, true] rfl rfl (one_of HT_.out (by kernel_rfl)) (by decide) (fun K hK => ?_)
  have hs43 : w41.cell? ⟨gb166, 3, none⟩ = some (.int .i64 0) := (blk_cell BK166.out 3).trans rfl
  have hfs43 := blk_frozen BK166.out 3
  have hns43_0 := NB165_166.out
  have hms43_0 := NB166_165.out
  refine skip_ (w1 := ?_) (by rfl) rfl ?_ ?_
  rotate_left
  ·
   go_simp
   rfl
  refine hK.out _ _ ⟨((cell_far (p := ⟨gb166, _, none⟩) NB165_166.out _).trans (hHeld.1)), ((cell_far (p := ⟨gb166, _, none⟩) NB165_166.out _).trans (hHeld.2.1)), ((cell_far (p := ⟨gb166, _, none⟩) NB165_166.out _).trans (hHeld.2.2.1)), ((cell_far (p := ⟨gb166, _, none⟩) NB165_166.out _).trans (hHeld.2.2.2.1)), ((cell_far (p := ⟨gb166, _, none⟩) NB165_166.out _).trans (hHeld.2.2.2.2))⟩ (fun hHeld => ?_)
  clear hK K
  refine done_ (done_of HT_.out (by kernel_rfl)) ?_
  have hcz44_0 := cz_ BK165 0 (.int .i64 a0_0)
  have hcz44_1 := cz_ BK165 1 (.int .i64 a0_1)
  have hcz44_2 := cz_ BK165 2 (.int .i64 a0_2)
  have hcz44_3 := cz_ BK165 3 (.int .i64 a0_3)
  have hcz44_4 := cz_ BK165 4 (.string a0_4)
  have hfz44_0 := blk_frozen BK165.out 0
  have hfz44_1 := blk_frozen BK165.out 1
  have hfz44_2 := blk_frozen BK165.out 2
  have hfz44_3 := blk_frozen BK165.out 3
  have hfz44_4 := blk_frozen BK165.out 4
  have hcz45_0 := cz_ BK166 0 (.int .i64 a0_0)
  have hcz45_1 := cz_ BK166 1 (.int .i64 0)
  have hcz45_2 := cz_ BK166 2 (.int .i64 0)
  have hcz45_3 := cz_ BK166 3 (.int .i64 0)
  have hcz45_4 := cz_ BK166 4 (.string (⟨#[]⟩ : ByteArray))
  have hfz45_0 := blk_frozen BK166.out 0
  have hfz45_1 := blk_frozen BK166.out 1
  have hfz45_2 := blk_frozen BK166.out 2
  have hfz45_3 := blk_frozen BK166.out 3
  have hfz45_4 := blk_frozen BK166.out 4
  try go_wp2
  go_ret
  exact ⟨er_, pb_ HB⟩
 rw [if_neg c20] at H
 have c20b0 : (a0_0 == 1) = false := beq_eq_false_iff_ne.mpr c20
 have c20b1 : (a0_0 != 1) = true := bne_iff_ne.mpr c20
 by_cases c46 : a0_0 = 2
 ·
  rw [if_pos c46] at H
  have c46b0 : (a0_0 == 2) = true := beq_iff_eq.mpr c46
  have c46b1 : (a0_0 != 2) = false := bne_eq_false_iff_eq.mpr c46
  clear c46
  by_cases c47 : (!(a0_2 == 0) || (!a0_4.toList.isEmpty)) = true
  ·
   rw [if_pos c47] at H
   have c47b0 : (!(a0_2 == 0) || (!a0_4.toList.isEmpty)) = true := c47
   clear c47
   obtain rfl := Option.some.inj H
   go_enter Tryd.func41, Tryd.ntmps41
   try go_wp2_with (first | ((with_reducible refine gate_dst (N := 1) rfl ?_); refine bx_ 1 #[.int .i64 a0_0, .int .i64 a0_1, .int .i64 a0_2, .int .i64 a0_3, .string a0_4] 26 ?_; intro gb165 hg w48 hbox hb; have BK165 := Aside0.mk (hbox); have GW165 := gw_ hg HB; have GE165 := gw_ hg HB; replace HB := sb_ HB hb; clear hb hbox hg; have hcz49_0 := cz_ BK165 0 (.int .i64 a0_0); have hcz49_1 := cz_ BK165 1 (.int .i64 a0_1); have hcz49_2 := cz_ BK165 2 (.int .i64 a0_2); have hcz49_3 := cz_ BK165 3 (.int .i64 a0_3); have hcz49_4 := cz_ BK165 4 (.string a0_4); have hfz49_0 := blk_frozen BK165.out 0; have hfz49_1 := blk_frozen BK165.out 1; have hfz49_2 := blk_frozen BK165.out 2; have hfz49_3 := blk_frozen BK165.out 3; have hfz49_4 := blk_frozen BK165.out 4) | ((with_reducible refine gate_dst (N := 3) rfl ?_); refine bx_ 3 #[.int .i64 0, .int .i64 0, .int .i64 0, .int .i64 0, .string (⟨#[]⟩ : ByteArray)] 26 ?_; intro gb166 hg w50 hbox hb; have BK166 := Aside0.mk (hbox); have GW166 := gw_ hg HB; have GE166 := gw_ hg HB; replace HB := sb_ HB hb; have NB165_166 := nl_ hg BK165; have NB166_165 := ng_ hg BK165; replace BK165 := kb_ BK165 hb; clear hb hbox hg; have hnb51 := NB166_165.out; have hnc51 := NB165_166.out; have hcz52_0 := cz_ BK166 0 (.int .i64 0); have hcz52_1 := cz_ BK166 1 (.int .i64 0); have hcz52_2 := cz_ BK166 2 (.int .i64 0); have hcz52_3 := cz_ BK166 3 (.int .i64 0); have hcz52_4 := cz_ BK166 4 (.string (⟨#[]⟩ : ByteArray)); have hfz52_0 := blk_frozen BK166.out 0; have hfz52_1 := blk_frozen BK166.out 1; have hfz52_2 := blk_frozen BK166.out 2; have hfz52_3 := blk_frozen BK166.out 3; have hfz52_4 := blk_frozen BK166.out 4; have hcz53_0 := cz_ BK165 0 (.int .i64 a0_0); have hcz53_1 := cz_ BK165 1 (.int .i64 a0_1); have hcz53_2 := cz_ BK165 2 (.int .i64 a0_2); have hcz53_3 := cz_ BK165 3 (.int .i64 a0_3); have hcz53_4 := cz_ BK165 4 (.string a0_4); have hfz53_0 := blk_frozen BK165.out 0; have hfz53_1 := blk_frozen BK165.out 1; have hfz53_2 := blk_frozen BK165.out 2; have hfz53_3 := blk_frozen BK165.out 3; have hfz53_4 := blk_frozen BK165.out 4))
   have n0_ : Aside0 ((((((w50.setCell ⟨gb166, 0, none⟩ (.int .i64 a0_0)).setCell ⟨gb166, 1, none⟩ (.int .i64 0)).setCell ⟨gb166, 2, none⟩ (.int .i64 0)).setCell ⟨gb166, 3, none⟩ (.int .i64 0)).setCell ⟨gb166, 4, none⟩ (.string (⟨#[]⟩ : ByteArray))).heap[gb165]? = some (.cells #[.int .i64 a0_0, .int .i64 a0_1, .int .i64 a0_2, .int .i64 a0_3, .string a0_4] 26 (0, 0))) := ⟨by (with_reducible repeat (first | refine blk_drewN ?_ _ | refine blk_drew ?_ | refine blk_alloc ?_ _)); refine blk_far ?_ NB165_166.out _; (with_reducible repeat (first | refine blk_drewN ?_ _ | refine blk_drew ?_ | refine blk_alloc ?_ _)); refine blk_far ?_ NB165_166.out _; (with_reducible repeat (first | refine blk_drewN ?_ _ | refine blk_drew ?_ | refine blk_alloc ?_ _)); refine blk_far ?_ NB165_166.out _; (with_reducible repeat (first | refine blk_drewN ?_ _ | refine blk_drew ?_ | refine blk_alloc ?_ _)); refine blk_far ?_ NB165_166.out _; (with_reducible repeat (first | refine blk_drewN ?_ _ | refine blk_drew ?_ | refine blk_alloc ?_ _)); refine blk_far ?_ NB165_166.out _; (with_reducible repeat (first | refine blk_drewN ?_ _ | refine blk_drew ?_ | refine blk_alloc ?_ _)); exact BK165.out⟩
   have n1_ : Aside0 ((((((w50.setCell ⟨gb166, 0, none⟩ (.int .i64 a0_0)).setCell ⟨gb166, 1, none⟩ (.int .i64 0)).setCell ⟨gb166, 2, none⟩ (.int .i64 0)).setCell ⟨gb166, 3, none⟩ (.int .i64 0)).setCell ⟨gb166, 4, none⟩ (.string (⟨#[]⟩ : ByteArray))).heap[gb166]? = some (.cells #[.int .i64 a0_0, .int .i64 0, .int .i64 0, .int .i64 0, .string (⟨#[]⟩ : ByteArray)] 26 (0, 0))) := ⟨bq_ BK166⟩
   have n2_ : Aside0 (Below w.heap.size w (((((w50.setCell ⟨gb166, 0, none⟩ (.int .i64 a0_0)).setCell ⟨gb166, 1, none⟩ (.int .i64 0)).setCell ⟨gb166, 2, none⟩ (.int .i64 0)).setCell ⟨gb166, 3, none⟩ (.int .i64 0)).setCell ⟨gb166, 4, none⟩ (.string (⟨#[]⟩ : ByteArray)))) := ⟨pb_ HB⟩
   (try clear BK165)
   (try clear BK166)
   (try clear HB)
   generalize (((((w50.setCell ⟨gb166, 0, none⟩ (.int .i64 a0_0)).setCell ⟨gb166, 1, none⟩ (.int .i64 0)).setCell ⟨gb166, 2, none⟩ (.int .i64 0)).setCell ⟨gb166, 3, none⟩ (.int .i64 0)).setCell ⟨gb166, 4, none⟩ (.string (⟨#[]⟩ : ByteArray))) = w54 at n0_ n1_ n2_ ⊢
   have BK165 := n0_
   have BK166 := n1_
   have HB := n2_
   clear n0_ n1_ n2_
   replace BK165 := Aside0.mk (blk_drew BK165.out)
   replace BK166 := Aside0.mk (blk_drew BK166.out)
   replace HB := Aside0.mk (below_drew1 HB.out)
   refine start_ (n := 8) (S := fun w' => w'.cell? ⟨gb165, 0, none⟩ = some (.int .i64 a0_0) ∧ w'.cell? ⟨gb165, 1, none⟩ = some (.int .i64 a0_1) ∧ w'.cell? ⟨gb165, 2, none⟩ = some (.int .i64 a0_2) ∧ w'.cell? ⟨gb165, 3, none⟩ = some (.int .i64 a0_3) ∧ w'.cell? ⟨gb165, 4, none⟩ = some (.string a0_4)) (ds := []) #[false, false, false, false, false, false, false, false] (by kernel_rfl) rfl rfl ⟨cy_ BK165 0, cy_ BK165 1, cy_ BK165 2, cy_ BK165 3, cy_ BK165 4⟩ (fun hHeld => ?_); refine with_tabW segment_form.tab8 segment_form.bits8 (fun HT_ HW_ => ?_)
   generalize w54.drew = w55 at BK165 BK166 HB hHeld ⊢
   refine pu_ 0 17 HT_ ?_
   refine pu_ 2 19 HT_ ?_
   refine tk_ 1 18 HT_ HW_ hHeld rfl (Or.inl ⟨by rfl, by rintro w' ⟨s0, s1, s2, s3, s4⟩; go_simp; with_reducible rfl⟩) ?_
   refine pu_ 4 21 HT_ ?_
   refine tk_ 3 20 HT_ HW_ hHeld rfl (Or.inl ⟨by rfl, by rintro w' ⟨s0, s1, s2, s3, s4⟩; go_simp; with_reducible rfl⟩) ?_
   refine one_ (i := 5) (N := none) #[true, true, true, true, true, true, false, false] rfl rfl (one_of HT_.out (by kernel_rfl)) (by decide) (fun K hK => ?_)
   have hs56 : w55.cell? ⟨gb166, 1, none⟩ = some (.int .i64 0) := (blk_cell BK166.out 1).trans rfl
   have hfs56 := blk_frozen BK166.out 1
   have hns56_0 := NB165_166.out
   have hms56_0 := NB166_165.out
   refine skip_ (w1 := ?_) (by rfl) rfl ?_ ?_
   rotate_left
   ·
    go_simp
    rfl
   refine hK.out _ _ ⟨((cell_far (p := ⟨gb166, _, none⟩) NB165_166.out _).trans (hHeld.1)), ((cell_far (p := ⟨gb166, _, none⟩) NB165_166.out _).trans (hHeld.2.1)), ((cell_far (p := ⟨gb166, _, none⟩) NB165_166.out _).trans (hHeld.2.2.1)), ((cell_far (p := ⟨gb166, _, none⟩) NB165_166.out _).trans (hHeld.2.2.2.1)), ((cell_far (p := ⟨gb166, _, none⟩) NB165_166.out _).trans (hHeld.2.2.2.2))⟩ (fun hHeld => ?_)
   clear hK K
   refine pu_ 6 22 HT_ ?_
   refine one_ (i := 7) (N := none) #[true, true, true, true, true, true, true, true] rfl rfl (one_of HT_.out (by kernel_rfl)) (by decide) (fun K hK => ?_)
   have hs57 : w55.cell? ⟨gb166, 3, none⟩ = some (.int .i64 0) := (blk_cell BK166.out 3).trans rfl
   have hfs57 := blk_frozen BK166.out 3
   have hns57_0 := NB165_166.out
   have hms57_0 := NB166_165.out
   refine skip_ (w1 := ?_) (by rfl) rfl ?_ ?_
   rotate_left
   ·
    go_simp
    rfl
   refine hK.out _ _ ⟨((cell_far (p := ⟨gb166, _, none⟩) NB165_166.out _).trans (hHeld.1)), ((cell_far (p := ⟨gb166, _, none⟩) NB165_166.out _).trans (hHeld.2.1)), ((cell_far (p := ⟨gb166, _, none⟩) NB165_166.out _).trans (hHeld.2.2.1)), ((cell_far (p := ⟨gb166, _, none⟩) NB165_166.out _).trans (hHeld.2.2.2.1)), ((cell_far (p := ⟨gb166, _, none⟩) NB165_166.out _).trans (hHeld.2.2.2.2))⟩ (fun hHeld => ?_)
   clear hK K
   refine done_ (done_of HT_.out (by kernel_rfl)) ?_
   have hcz58_0 := cz_ BK165 0 (.int .i64 a0_0)
   have hcz58_1 := cz_ BK165 1 (.int .i64 a0_1)
   have hcz58_2 := cz_ BK165 2 (.int .i64 a0_2)
   have hcz58_3 := cz_ BK165 3 (.int .i64 a0_3)
   have hcz58_4 := cz_ BK165 4 (.string a0_4)
   have hfz58_0 := blk_frozen BK165.out 0
   have hfz58_1 := blk_frozen BK165.out 1
   have hfz58_2 := blk_frozen BK165.out 2
   have hfz58_3 := blk_frozen BK165.out 3
   have hfz58_4 := blk_frozen BK165.out 4
   have hcz59_0 := cz_ BK166 0 (.int .i64 a0_0)
   have hcz59_1 := cz_ BK166 1 (.int .i64 0)
   have hcz59_2 := cz_ BK166 2 (.int .i64 0)
   have hcz59_3 := cz_ BK166 3 (.int .i64 0)
   have hcz59_4 := cz_ BK166 4 (.string (⟨#[]⟩ : ByteArray))
   have hfz59_0 := blk_frozen BK166.out 0
   have hfz59_1 := blk_frozen BK166.out 1
   have hfz59_2 := blk_frozen BK166.out 2
   have hfz59_3 := blk_frozen BK166.out 3
   have hfz59_4 := blk_frozen BK166.out 4
   try go_wp2
   go_ret
   exact ⟨er_, pb_ HB⟩
  rw [if_neg c47] at H
  have c47b0 : (!(a0_2 == 0) || (!a0_4.toList.isEmpty)) = false := by simpa using c47
  clear c47
  obtain rfl := Option.some.inj H
  go_enter Tryd.func41, Tryd.ntmps41
  try go_wp2_with (first | ((with_reducible refine gate_dst (N := 1) rfl ?_); refine bx_ 1 #[.int .i64 a0_0, .int .i64 a0_1, .int .i64 a0_2, .int .i64 a0_3, .string a0_4] 26 ?_; intro gb165 hg w60 hbox hb; have BK165 := Aside0.mk (hbox); have GW165 := gw_ hg HB; have GE165 := gw_ hg HB; replace HB := sb_ HB hb; clear hb hbox hg; have hcz61_0 := cz_ BK165 0 (.int .i64 a0_0); have hcz61_1 := cz_ BK165 1 (.int .i64 a0_1); have hcz61_2 := cz_ BK165 2 (.int .i64 a0_2); have hcz61_3 := cz_ BK165 3 (.int .i64 a0_3); have hcz61_4 := cz_ BK165 4 (.string a0_4); have hfz61_0 := blk_frozen BK165.out 0; have hfz61_1 := blk_frozen BK165.out 1; have hfz61_2 := blk_frozen BK165.out 2; have hfz61_3 := blk_frozen BK165.out 3; have hfz61_4 := blk_frozen BK165.out 4) | ((with_reducible refine gate_dst (N := 3) rfl ?_); refine bx_ 3 #[.int .i64 0, .int .i64 0, .int .i64 0, .int .i64 0, .string (⟨#[]⟩ : ByteArray)] 26 ?_; intro gb166 hg w62 hbox hb; have BK166 := Aside0.mk (hbox); have GW166 := gw_ hg HB; have GE166 := gw_ hg HB; replace HB := sb_ HB hb; have NB165_166 := nl_ hg BK165; have NB166_165 := ng_ hg BK165; replace BK165 := kb_ BK165 hb; clear hb hbox hg; have hnb63 := NB166_165.out; have hnc63 := NB165_166.out; have hcz64_0 := cz_ BK166 0 (.int .i64 0); have hcz64_1 := cz_ BK166 1 (.int .i64 0); have hcz64_2 := cz_ BK166 2 (.int .i64 0); have hcz64_3 := cz_ BK166 3 (.int .i64 0); have hcz64_4 := cz_ BK166 4 (.string (⟨#[]⟩ : ByteArray)); have hfz64_0 := blk_frozen BK166.out 0; have hfz64_1 := blk_frozen BK166.out 1; have hfz64_2 := blk_frozen BK166.out 2; have hfz64_3 := blk_frozen BK166.out 3; have hfz64_4 := blk_frozen BK166.out 4; have hcz65_0 := cz_ BK165 0 (.int .i64 a0_0); have hcz65_1 := cz_ BK165 1 (.int .i64 a0_1); have hcz65_2 := cz_ BK165 2 (.int .i64 a0_2); have hcz65_3 := cz_ BK165 3 (.int .i64 a0_3); have hcz65_4 := cz_ BK165 4 (.string a0_4); have hfz65_0 := blk_frozen BK165.out 0; have hfz65_1 := blk_frozen BK165.out 1; have hfz65_2 := blk_frozen BK165.out 2; have hfz65_3 := blk_frozen BK165.out 3; have hfz65_4 := blk_frozen BK165.out 4))
  have n0_ : Aside0 ((((((w62.setCell ⟨gb166, 0, none⟩ (.int .i64 a0_0)).setCell ⟨gb166, 1, none⟩ (.int .i64 0)).setCell ⟨gb166, 2, none⟩ (.int .i64 0)).setCell ⟨gb166, 3, none⟩ (.int .i64 0)).setCell ⟨gb166, 4, none⟩ (.string (⟨#[]⟩ : ByteArray))).heap[gb165]? = some (.cells #[.int .i64 a0_0, .int .i64 a0_1, .int .i64 a0_2, .int .i64 a0_3, .string a0_4] 26 (0, 0))) := ⟨by (with_reducible repeat (first | refine blk_drewN ?_ _ | refine blk_drew ?_ | refine blk_alloc ?_ _)); refine blk_far ?_ NB165_166.out _; (with_reducible repeat (first | refine blk_drewN ?_ _ | refine blk_drew ?_ | refine blk_alloc ?_ _)); refine blk_far ?_ NB165_166.out _; (with_reducible repeat (first | refine blk_drewN ?_ _ | refine blk_drew ?_ | refine blk_alloc ?_ _)); refine blk_far ?_ NB165_166.out _; (with_reducible repeat (first | refine blk_drewN ?_ _ | refine blk_drew ?_ | refine blk_alloc ?_ _)); refine blk_far ?_ NB165_166.out _; (with_reducible repeat (first | refine blk_drewN ?_ _ | refine blk_drew ?_ | refine blk_alloc ?_ _)); refine blk_far ?_ NB165_166.out _; (with_reducible repeat (first | refine blk_drewN ?_ _ | refine blk_drew ?_ | refine blk_alloc ?_ _)); exact BK165.out⟩
  have n1_ : Aside0 ((((((w62.setCell ⟨gb166, 0, none⟩ (.int .i64 a0_0)).setCell ⟨gb166, 1, none⟩ (.int .i64 0)).setCell ⟨gb166, 2, none⟩ (.int .i64 0)).setCell ⟨gb166, 3, none⟩ (.int .i64 0)).setCell ⟨gb166, 4, none⟩ (.string (⟨#[]⟩ : ByteArray))).heap[gb166]? = some (.cells #[.int .i64 a0_0, .int .i64 0, .int .i64 0, .int .i64 0, .string (⟨#[]⟩ : ByteArray)] 26 (0, 0))) := ⟨bq_ BK166⟩
  have n2_ : Aside0 (Below w.heap.size w (((((w62.setCell ⟨gb166, 0, none⟩ (.int .i64 a0_0)).setCell ⟨gb166, 1, none⟩ (.int .i64 0)).setCell ⟨gb166, 2, none⟩ (.int .i64 0)).setCell ⟨gb166, 3, none⟩ (.int .i64 0)).setCell ⟨gb166, 4, none⟩ (.string (⟨#[]⟩ : ByteArray)))) := ⟨pb_ HB⟩
  (try clear BK165)
  (try clear BK166)
  (try clear HB)
  generalize (((((w62.setCell ⟨gb166, 0, none⟩ (.int .i64 a0_0)).setCell ⟨gb166, 1, none⟩ (.int .i64 0)).setCell ⟨gb166, 2, none⟩ (.int .i64 0)).setCell ⟨gb166, 3, none⟩ (.int .i64 0)).setCell ⟨gb166, 4, none⟩ (.string (⟨#[]⟩ : ByteArray))) = w66 at n0_ n1_ n2_ ⊢
  have BK165 := n0_
  have BK166 := n1_
  have HB := n2_
  clear n0_ n1_ n2_
  replace BK165 := Aside0.mk (blk_drew BK165.out)
  replace BK166 := Aside0.mk (blk_drew BK166.out)
  replace HB := Aside0.mk (below_drew1 HB.out)
  refine start_ (n := 8) (S := fun w' => w'.cell? ⟨gb165, 0, none⟩ = some (.int .i64 a0_0) ∧ w'.cell? ⟨gb165, 1, none⟩ = some (.int .i64 a0_1) ∧ w'.cell? ⟨gb165, 2, none⟩ = some (.int .i64 a0_2) ∧ w'.cell? ⟨gb165, 3, none⟩ = some (.int .i64 a0_3) ∧ w'.cell? ⟨gb165, 4, none⟩ = some (.string a0_4)) (ds := []) #[false, false, false, false, false, false, false, false] (by kernel_rfl) rfl rfl ⟨cy_ BK165 0, cy_ BK165 1, cy_ BK165 2, cy_ BK165 3, cy_ BK165 4⟩ (fun hHeld => ?_); refine with_tabW segment_form.tab8 segment_form.bits8 (fun HT_ HW_ => ?_)
  generalize w66.drew = w67 at BK165 BK166 HB hHeld ⊢
  refine pu_ 0 17 HT_ ?_
  refine pu_ 2 19 HT_ ?_
  refine tk_ 1 18 HT_ HW_ hHeld rfl (Or.inl ⟨by rfl, by rintro w' ⟨s0, s1, s2, s3, s4⟩; go_simp; with_reducible rfl⟩) ?_
  refine pu_ 4 21 HT_ ?_
  refine tk_ 3 20 HT_ HW_ hHeld rfl (Or.inl ⟨by rfl, by rintro w' ⟨s0, s1, s2, s3, s4⟩; go_simp; with_reducible rfl⟩) ?_
  refine one_ (i := 5) (N := none) #[true, true, true, true, true, true, false, false] rfl rfl (one_of HT_.out (by kernel_rfl)) (by decide) (fun K hK => ?_)
  have hs68 : w67.cell? ⟨gb166, 1, none⟩ = some (.int .i64 0) := (blk_cell BK166.out 1).trans rfl
  have hfs68 := blk_frozen BK166.out 1
  have hns68_0 := NB165_166.out
  have hms68_0 := NB166_165.out
  refine skip_ (w1 := ?_) (by rfl) rfl ?_ ?_
  rotate_left
  ·
   go_simp
   rfl
  refine hK.out _ _ ⟨((cell_far (p := ⟨gb166, _, none⟩) NB165_166.out _).trans (hHeld.1)), ((cell_far (p := ⟨gb166, _, none⟩) NB165_166.out _).trans (hHeld.2.1)), ((cell_far (p := ⟨gb166, _, none⟩) NB165_166.out _).trans (hHeld.2.2.1)), ((cell_far (p := ⟨gb166, _, none⟩) NB165_166.out _).trans (hHeld.2.2.2.1)), ((cell_far (p := ⟨gb166, _, none⟩) NB165_166.out _).trans (hHeld.2.2.2.2))⟩ (fun hHeld => ?_)
  clear hK K
  refine pu_ 6 22 HT_ ?_
  refine one_ (i := 7) (N := none) #[true, true, true, true, true, true, true, true] rfl rfl (one_of HT_.out (by kernel_rfl)) (by decide) (fun K hK => ?_)
  have hs69 : w67.cell? ⟨gb166, 3, none⟩ = some (.int .i64 0) := (blk_cell BK166.out 3).trans rfl
  have hfs69 := blk_frozen BK166.out 3
  have hns69_0 := NB165_166.out
  have hms69_0 := NB166_165.out
  refine skip_ (w1 := ?_) (by rfl) rfl ?_ ?_
  rotate_left
  ·
   go_simp
   rfl
  refine hK.out _ _ ⟨((cell_far (p := ⟨gb166, _, none⟩) NB165_166.out _).trans (hHeld.1)), ((cell_far (p := ⟨gb166, _, none⟩) NB165_166.out _).trans (hHeld.2.1)), ((cell_far (p := ⟨gb166, _, none⟩) NB165_166.out _).trans (hHeld.2.2.1)), ((cell_far (p := ⟨gb166, _, none⟩) NB165_166.out _).trans (hHeld.2.2.2.1)), ((cell_far (p := ⟨gb166, _, none⟩) NB165_166.out _).trans (hHeld.2.2.2.2))⟩ (fun hHeld => ?_)
  clear hK K
  refine done_ (done_of HT_.out (by kernel_rfl)) ?_
  have hcz70_0 := cz_ BK165 0 (.int .i64 a0_0)
  have hcz70_1 := cz_ BK165 1 (.int .i64 a0_1)
  have hcz70_2 := cz_ BK165 2 (.int .i64 a0_2)
  have hcz70_3 := cz_ BK165 3 (.int .i64 a0_3)
  have hcz70_4 := cz_ BK165 4 (.string a0_4)
  have hfz70_0 := blk_frozen BK165.out 0
  have hfz70_1 := blk_frozen BK165.out 1
  have hfz70_2 := blk_frozen BK165.out 2
  have hfz70_3 := blk_frozen BK165.out 3
  have hfz70_4 := blk_frozen BK165.out 4
  have hcz71_0 := cz_ BK166 0 (.int .i64 a0_0)
  have hcz71_1 := cz_ BK166 1 (.int .i64 0)
  have hcz71_2 := cz_ BK166 2 (.int .i64 0)
  have hcz71_3 := cz_ BK166 3 (.int .i64 0)
  have hcz71_4 := cz_ BK166 4 (.string (⟨#[]⟩ : ByteArray))
  have hfz71_0 := blk_frozen BK166.out 0
  have hfz71_1 := blk_frozen BK166.out 1
  have hfz71_2 := blk_frozen BK166.out 2
  have hfz71_3 := blk_frozen BK166.out 3
  have hfz71_4 := blk_frozen BK166.out 4
  try go_wp2
  go_ret
  exact ⟨er_, pb_ HB⟩
 rw [if_neg c46] at H
 have c46b0 : (a0_0 == 2) = false := beq_eq_false_iff_ne.mpr c46
 have c46b1 : (a0_0 != 2) = true := bne_iff_ne.mpr c46
 by_cases c72 : a0_0 = 3
 ·
  rw [if_pos c72] at H
  have c72b0 : (a0_0 == 3) = true := beq_iff_eq.mpr c72
  have c72b1 : (a0_0 != 3) = false := bne_eq_false_iff_eq.mpr c72
  clear c72
  by_cases c73 : (!(a0_2 == 0) || (!(a0_3 == 0) || (!a0_4.toList.isEmpty))) = true
  ·
   rw [if_pos c73] at H
   have c73b0 : (!(a0_2 == 0) || (!(a0_3 == 0) || (!a0_4.toList.isEmpty))) = true := c73
   clear c73
   obtain rfl := Option.some.inj H
   go_enter Tryd.func41, Tryd.ntmps41
   go_wp2_with (first | ((with_reducible refine gate_dst (N := 1) rfl ?_); refine bx_ 1 #[.int .i64 a0_0, .int .i64 a0_1, .int .i64 a0_2, .int .i64 a0_3, .string a0_4] 26 ?_; intro gb165 hg w74 hbox hb; have BK165 := Aside0.mk (hbox); have GW165 := gw_ hg HB; have GE165 := gw_ hg HB; replace HB := sb_ HB hb; clear hb hbox hg; have hcz75_0 := cz_ BK165 0 (.int .i64 a0_0); have hcz75_1 := cz_ BK165 1 (.int .i64 a0_1); have hcz75_2 := cz_ BK165 2 (.int .i64 a0_2); have hcz75_3 := cz_ BK165 3 (.int .i64 a0_3); have hcz75_4 := cz_ BK165 4 (.string a0_4); have hfz75_0 := blk_frozen BK165.out 0; have hfz75_1 := blk_frozen BK165.out 1; have hfz75_2 := blk_frozen BK165.out 2; have hfz75_3 := blk_frozen BK165.out 3; have hfz75_4 := blk_frozen BK165.out 4) | ((with_reducible refine gate_dst (N := 3) rfl ?_); refine bx_ 3 #[.int .i64 0, .int .i64 0, .int .i64 0, .int .i64 0, .string (⟨#[]⟩ : ByteArray)] 26 ?_; intro gb166 hg w76 hbox hb; have BK166 := Aside0.mk (hbox); have GW166 := gw_ hg HB; have GE166 := gw_ hg HB; replace HB := sb_ HB hb; have NB165_166 := nl_ hg BK165; have NB166_165 := ng_ hg BK165; replace BK165 := kb_ BK165 hb; clear hb hbox hg; have hnb77 := NB166_165.out; have hnc77 := NB165_166.out; have hcz78_0 := cz_ BK166 0 (.int .i64 0); have hcz78_1 := cz_ BK166 1 (.int .i64 0); have hcz78_2 := cz_ BK166 2 (.int .i64 0); have hcz78_3 := cz_ BK166 3 (.int .i64 0); have hcz78_4 := cz_ BK166 4 (.string (⟨#[]⟩ : ByteArray)); have hfz78_0 := blk_frozen BK166.out 0; have hfz78_1 := blk_frozen BK166.out 1; have hfz78_2 := blk_frozen BK166.out 2; have hfz78_3 := blk_frozen BK166.out 3; have hfz78_4 := blk_frozen BK166.out 4) | ((with_reducible refine gate_store (t := 26) (p := 3) rfl ?_); refine store_event (t := 26) (p := 3) (v := ?vo_w79) (w1 := (((((w76.setCell ⟨gb166, 0, none⟩ (.int .i64 a0_0)).setCell ⟨gb166, 1, none⟩ (.int .i64 0)).setCell ⟨gb166, 2, none⟩ (.int .i64 0)).setCell ⟨gb166, 3, none⟩ (.int .i64 0)).setCell ⟨gb166, 4, none⟩ (.string (⟨#[]⟩ : ByteArray)))) ?hg ?ho ?hn ?hr ?_; (case ho => rfl); (case hg => rfl); (case hn => rfl); (case hr => first | (go_simp; done) | (go_simp; rfl)); intro w79 hw; have n0_ : Aside0 (w79.heap[gb165]? = some (.cells #[.int .i64 a0_0, .int .i64 a0_1, .int .i64 a0_2, .int .i64 a0_3, .string a0_4] 26 (0, 0))) := ⟨(by rw [hw]; exact (by (with_reducible repeat (first | refine blk_drewN ?_ _ | refine blk_drew ?_ | refine blk_alloc ?_ _)); refine blk_far ?_ NB165_166.out _; (with_reducible repeat (first | refine blk_drewN ?_ _ | refine blk_drew ?_ | refine blk_alloc ?_ _)); refine blk_far ?_ NB165_166.out _; (with_reducible repeat (first | refine blk_drewN ?_ _ | refine blk_drew ?_ | refine blk_alloc ?_ _)); refine blk_far ?_ NB165_166.out _; (with_reducible repeat (first | refine blk_drewN ?_ _ | refine blk_drew ?_ | refine blk_alloc ?_ _)); refine blk_far ?_ NB165_166.out _; (with_reducible repeat (first | refine blk_drewN ?_ _ | refine blk_drew ?_ | refine blk_alloc ?_ _)); refine blk_far ?_ NB165_166.out _; (with_reducible repeat (first | refine blk_drewN ?_ _ | refine blk_drew ?_ | refine blk_alloc ?_ _)); exact BK165.out))⟩; have n1_ : Aside0 (w79.heap[gb166]? = some (.cells #[.int .i64 a0_0, .int .i64 0, .int .i64 0, .int .i64 0, .string (⟨#[]⟩ : ByteArray)] 26 (0, 0))) := ⟨(by rw [hw]; exact (bq_ BK166))⟩; have n2_ : Aside0 (Below w.heap.size w w79) := ⟨(by rw [hw]; exact (pb_ HB))⟩; clear hw; clear BK165; clear BK166; clear HB; have BK165 := n0_; have BK166 := n1_; have HB := n2_; clear n0_ n1_ n2_; have hcz80_0 := cz_ BK165 0 (.int .i64 a0_0); have hcz80_1 := cz_ BK165 1 (.int .i64 a0_1); have hcz80_2 := cz_ BK165 2 (.int .i64 a0_2); have hcz80_3 := cz_ BK165 3 (.int .i64 a0_3); have hcz80_4 := cz_ BK165 4 (.string a0_4); have hfz80_0 := blk_frozen BK165.out 0; have hfz80_1 := blk_frozen BK165.out 1; have hfz80_2 := blk_frozen BK165.out 2; have hfz80_3 := blk_frozen BK165.out 3; have hfz80_4 := blk_frozen BK165.out 4; have hcz81_0 := cz_ BK166 0 (.int .i64 a0_0); have hcz81_1 := cz_ BK166 1 (.int .i64 0); have hcz81_2 := cz_ BK166 2 (.int .i64 0); have hcz81_3 := cz_ BK166 3 (.int .i64 0); have hcz81_4 := cz_ BK166 4 (.string (⟨#[]⟩ : ByteArray)); have hfz81_0 := blk_frozen BK166.out 0; have hfz81_1 := blk_frozen BK166.out 1; have hfz81_2 := blk_frozen BK166.out 2; have hfz81_3 := blk_frozen BK166.out 3; have hfz81_4 := blk_frozen BK166.out 4))
   go_ret
   exact ⟨er_, pb_ HB⟩
  rw [if_neg c73] at H
  have c73b0 : (!(a0_2 == 0) || (!(a0_3 == 0) || (!a0_4.toList.isEmpty))) = false := by simpa using c73
  clear c73
  obtain rfl := Option.some.inj H
  go_enter Tryd.func41, Tryd.ntmps41
  go_wp2_with (first | ((with_reducible refine gate_dst (N := 1) rfl ?_); refine bx_ 1 #[.int .i64 a0_0, .int .i64 a0_1, .int .i64 a0_2, .int .i64 a0_3, .string a0_4] 26 ?_; intro gb165 hg w82 hbox hb; have BK165 := Aside0.mk (hbox); have GW165 := gw_ hg HB; have GE165 := gw_ hg HB; replace HB := sb_ HB hb; clear hb hbox hg; have hcz83_0 := cz_ BK165 0 (.int .i64 a0_0); have hcz83_1 := cz_ BK165 1 (.int .i64 a0_1); have hcz83_2 := cz_ BK165 2 (.int .i64 a0_2); have hcz83_3 := cz_ BK165 3 (.int .i64 a0_3); have hcz83_4 := cz_ BK165 4 (.string a0_4); have hfz83_0 := blk_frozen BK165.out 0; have hfz83_1 := blk_frozen BK165.out 1; have hfz83_2 := blk_frozen BK165.out 2; have hfz83_3 := blk_frozen BK165.out 3; have hfz83_4 := blk_frozen BK165.out 4) | ((with_reducible refine gate_dst (N := 3) rfl ?_); refine bx_ 3 #[.int .i64 0, .int .i64 0, .int .i64 0, .int .i64 0, .string (⟨#[]⟩ : ByteArray)] 26 ?_; intro gb166 hg w84 hbox hb; have BK166 := Aside0.mk (hbox); have GW166 := gw_ hg HB; have GE166 := gw_ hg HB; replace HB := sb_ HB hb; have NB165_166 := nl_ hg BK165; have NB166_165 := ng_ hg BK165; replace BK165 := kb_ BK165 hb; clear hb hbox hg; have hnb85 := NB166_165.out; have hnc85 := NB165_166.out; have hcz86_0 := cz_ BK166 0 (.int .i64 0); have hcz86_1 := cz_ BK166 1 (.int .i64 0); have hcz86_2 := cz_ BK166 2 (.int .i64 0); have hcz86_3 := cz_ BK166 3 (.int .i64 0); have hcz86_4 := cz_ BK166 4 (.string (⟨#[]⟩ : ByteArray)); have hfz86_0 := blk_frozen BK166.out 0; have hfz86_1 := blk_frozen BK166.out 1; have hfz86_2 := blk_frozen BK166.out 2; have hfz86_3 := blk_frozen BK166.out 3; have hfz86_4 := blk_frozen BK166.out 4) | ((with_reducible refine gate_store (t := 26) (p := 3) rfl ?_); refine store_event (t := 26) (p := 3) (v := ?vo_w87) (w1 := (((((w84.setCell ⟨gb166, 0, none⟩ (.int .i64 a0_0)).setCell ⟨gb166, 1, none⟩ (.int .i64 0)).setCell ⟨gb166, 2, none⟩ (.int .i64 0)).setCell ⟨gb166, 3, none⟩ (.int .i64 0)).setCell ⟨gb166, 4, none⟩ (.string (⟨#[]⟩ : ByteArray)))) ?hg ?ho ?hn ?hr ?_; (case ho => rfl); (case hg => rfl); (case hn => rfl); (case hr => first | (go_simp; done) | (go_simp; rfl)); intro w87 hw; have n0_ : Aside0 (w87.heap[gb165]? = some (.cells #[.int .i64 a0_0, .int .i64 a0_1, .int .i64 a0_2, .int .i64 a0_3, .string a0_4] 26 (0, 0))) := ⟨(by rw [hw]; exact (by (with_reducible repeat (first | refine blk_drewN ?_ _ | refine blk_drew ?_ | refine blk_alloc ?_ _)); refine blk_far ?_ NB165_166.out _; (with_reducible repeat (first | refine blk_drewN ?_ _ | refine blk_drew ?_ | refine blk_alloc ?_ _)); refine blk_far ?_ NB165_166.out _; (with_reducible repeat (first | refine blk_drewN ?_ _ | refine blk_drew ?_ | refine blk_alloc ?_ _)); refine blk_far ?_ NB165_166.out _; (with_reducible repeat (first | refine blk_drewN ?_ _ | refine blk_drew ?_ | refine blk_alloc ?_ _)); refine blk_far ?_ NB165_166.out _; (with_reducible repeat (first | refine blk_drewN ?_ _ | refine blk_drew ?_ | refine blk_alloc ?_ _)); refine blk_far ?_ NB165_166.out _; (with_reducible repeat (first | refine blk_drewN ?_ _ | refine blk_drew ?_ | refine blk_alloc ?_ _)); exact BK165.out))⟩; have n1_ : Aside0 (w87.heap[gb166]? = some (.cells #[.int .i64 a0_0, .int .i64 0, .int .i64 0, .int .i64 0, .string (⟨#[]⟩ : ByteArray)] 26 (0, 0))) := ⟨(by rw [hw]; exact (bq_ BK166))⟩; have n2_ : Aside0 (Below w.heap.size w w87) := ⟨(by rw [hw]; exact (pb_ HB))⟩; clear hw; clear BK165; clear BK166; clear HB; have BK165 := n0_; have BK166 := n1_; have HB := n2_; clear n0_ n1_ n2_; have hcz88_0 := cz_ BK165 0 (.int .i64 a0_0); have hcz88_1 := cz_ BK165 1 (.int .i64 a0_1); have hcz88_2 := cz_ BK165 2 (.int .i64 a0_2); have hcz88_3 := cz_ BK165 3 (.int .i64 a0_3); have hcz88_4 := cz_ BK165 4 (.string a0_4); have hfz88_0 := blk_frozen BK165.out 0; have hfz88_1 := blk_frozen BK165.out 1; have hfz88_2 := blk_frozen BK165.out 2; have hfz88_3 := blk_frozen BK165.out 3; have hfz88_4 := blk_frozen BK165.out 4; have hcz89_0 := cz_ BK166 0 (.int .i64 a0_0); have hcz89_1 := cz_ BK166 1 (.int .i64 0); have hcz89_2 := cz_ BK166 2 (.int .i64 0); have hcz89_3 := cz_ BK166 3 (.int .i64 0); have hcz89_4 := cz_ BK166 4 (.string (⟨#[]⟩ : ByteArray)); have hfz89_0 := blk_frozen BK166.out 0; have hfz89_1 := blk_frozen BK166.out 1; have hfz89_2 := blk_frozen BK166.out 2; have hfz89_3 := blk_frozen BK166.out 3; have hfz89_4 := blk_frozen BK166.out 4))
  go_ret
  exact ⟨er_, pb_ HB⟩
 rw [if_neg c72] at H
 have c72b0 : (a0_0 == 3) = false := beq_eq_false_iff_ne.mpr c72
 have c72b1 : (a0_0 != 3) = true := bne_iff_ne.mpr c72
 by_cases c90 : a0_0 = 4
 ·
  rw [if_pos c90] at H
  have c90b0 : (a0_0 == 4) = true := beq_iff_eq.mpr c90
  have c90b1 : (a0_0 != 4) = false := bne_eq_false_iff_eq.mpr c90
  clear c90
  by_cases c91 : (!(a0_3 == 0)) = true
  ·
   rw [if_pos c91] at H
   have c91b0 : (!(a0_3 == 0)) = true := c91
   clear c91
   obtain rfl := Option.some.inj H
   go_enter Tryd.func41, Tryd.ntmps41
   try go_wp2_with (first | ((with_reducible refine gate_dst (N := 1) rfl ?_); refine bx_ 1 #[.int .i64 a0_0, .int .i64 a0_1, .int .i64 a0_2, .int .i64 a0_3, .string a0_4] 26 ?_; intro gb165 hg w92 hbox hb; have BK165 := Aside0.mk (hbox); have GW165 := gw_ hg HB; have GE165 := gw_ hg HB; replace HB := sb_ HB hb; clear hb hbox hg; have hcz93_0 := cz_ BK165 0 (.int .i64 a0_0); have hcz93_1 := cz_ BK165 1 (.int .i64 a0_1); have hcz93_2 := cz_ BK165 2 (.int .i64 a0_2); have hcz93_3 := cz_ BK165 3 (.int .i64 a0_3); have hcz93_4 := cz_ BK165 4 (.string a0_4); have hfz93_0 := blk_frozen BK165.out 0; have hfz93_1 := blk_frozen BK165.out 1; have hfz93_2 := blk_frozen BK165.out 2; have hfz93_3 := blk_frozen BK165.out 3; have hfz93_4 := blk_frozen BK165.out 4) | ((with_reducible refine gate_dst (N := 3) rfl ?_); refine bx_ 3 #[.int .i64 0, .int .i64 0, .int .i64 0, .int .i64 0, .string (⟨#[]⟩ : ByteArray)] 26 ?_; intro gb166 hg w94 hbox hb; have BK166 := Aside0.mk (hbox); have GW166 := gw_ hg HB; have GE166 := gw_ hg HB; replace HB := sb_ HB hb; have NB165_166 := nl_ hg BK165; have NB166_165 := ng_ hg BK165; replace BK165 := kb_ BK165 hb; clear hb hbox hg; have hnb95 := NB166_165.out; have hnc95 := NB165_166.out; have hcz96_0 := cz_ BK166 0 (.int .i64 0); have hcz96_1 := cz_ BK166 1 (.int .i64 0); have hcz96_2 := cz_ BK166 2 (.int .i64 0); have hcz96_3 := cz_ BK166 3 (.int .i64 0); have hcz96_4 := cz_ BK166 4 (.string (⟨#[]⟩ : ByteArray)); have hfz96_0 := blk_frozen BK166.out 0; have hfz96_1 := blk_frozen BK166.out 1; have hfz96_2 := blk_frozen BK166.out 2; have hfz96_3 := blk_frozen BK166.out 3; have hfz96_4 := blk_frozen BK166.out 4; have hcz97_0 := cz_ BK165 0 (.int .i64 a0_0); have hcz97_1 := cz_ BK165 1 (.int .i64 a0_1); have hcz97_2 := cz_ BK165 2 (.int .i64 a0_2); have hcz97_3 := cz_ BK165 3 (.int .i64 a0_3); have hcz97_4 := cz_ BK165 4 (.string a0_4); have hfz97_0 := blk_frozen BK165.out 0; have hfz97_1 := blk_frozen BK165.out 1; have hfz97_2 := blk_frozen BK165.out 2; have hfz97_3 := blk_frozen BK165.out 3; have hfz97_4 := blk_frozen BK165.out 4))
   have n0_ : Aside0 ((((((w94.setCell ⟨gb166, 0, none⟩ (.int .i64 a0_0)).setCell ⟨gb166, 1, none⟩ (.int .i64 0)).setCell ⟨gb166, 2, none⟩ (.int .i64 0)).setCell ⟨gb166, 3, none⟩ (.int .i64 0)).setCell ⟨gb166, 4, none⟩ (.string (⟨#[]⟩ : ByteArray))).heap[gb165]? = some (.cells #[.int .i64 a0_0, .int .i64 a0_1, .int .i64 a0_2, .int .i64 a0_3, .string a0_4] 26 (0, 0))) := ⟨by (with_reducible repeat (first | refine blk_drewN ?_ _ | refine blk_drew ?_ | refine blk_alloc ?_ _)); refine blk_far ?_ NB165_166.out _; (with_reducible repeat (first | refine blk_drewN ?_ _ | refine blk_drew ?_ | refine blk_alloc ?_ _)); refine blk_far ?_ NB165_166.out _; (with_reducible repeat (first | refine blk_drewN ?_ _ | refine blk_drew ?_ | refine blk_alloc ?_ _)); refine blk_far ?_ NB165_166.out _; (with_reducible repeat (first | refine blk_drewN ?_ _ | refine blk_drew ?_ | refine blk_alloc ?_ _)); refine blk_far ?_ NB165_166.out _; (with_reducible repeat (first | refine blk_drewN ?_ _ | refine blk_drew ?_ | refine blk_alloc ?_ _)); refine blk_far ?_ NB165_166.out _; (with_reducible repeat (first | refine blk_drewN ?_ _ | refine blk_drew ?_ | refine blk_alloc ?_ _)); exact BK165.out⟩
   have n1_ : Aside0 ((((((w94.setCell ⟨gb166, 0, none⟩ (.int .i64 a0_0)).setCell ⟨gb166, 1, none⟩ (.int .i64 0)).setCell ⟨gb166, 2, none⟩ (.int .i64 0)).setCell ⟨gb166, 3, none⟩ (.int .i64 0)).setCell ⟨gb166, 4, none⟩ (.string (⟨#[]⟩ : ByteArray))).heap[gb166]? = some (.cells #[.int .i64 a0_0, .int .i64 0, .int .i64 0, .int .i64 0, .string (⟨#[]⟩ : ByteArray)] 26 (0, 0))) := ⟨bq_ BK166⟩
   have n2_ : Aside0 (Below w.heap.size w (((((w94.setCell ⟨gb166, 0, none⟩ (.int .i64 a0_0)).setCell ⟨gb166, 1, none⟩ (.int .i64 0)).setCell ⟨gb166, 2, none⟩ (.int .i64 0)).setCell ⟨gb166, 3, none⟩ (.int .i64 0)).setCell ⟨gb166, 4, none⟩ (.string (⟨#[]⟩ : ByteArray)))) := ⟨pb_ HB⟩
   (try clear BK165)
   (try clear BK166)
   (try clear HB)
   generalize (((((w94.setCell ⟨gb166, 0, none⟩ (.int .i64 a0_0)).setCell ⟨gb166, 1, none⟩ (.int .i64 0)).setCell ⟨gb166, 2, none⟩ (.int .i64 0)).setCell ⟨gb166, 3, none⟩ (.int .i64 0)).setCell ⟨gb166, 4, none⟩ (.string (⟨#[]⟩ : ByteArray))) = w98 at n0_ n1_ n2_ ⊢
   have BK165 := n0_
   have BK166 := n1_
   have HB := n2_
   clear n0_ n1_ n2_
   replace BK165 := Aside0.mk (blk_drew BK165.out)
   replace BK166 := Aside0.mk (blk_drew BK166.out)
   replace HB := Aside0.mk (below_drew1 HB.out)
   refine start_ (n := 12) (S := fun w' => w'.cell? ⟨gb165, 0, none⟩ = some (.int .i64 a0_0) ∧ w'.cell? ⟨gb165, 1, none⟩ = some (.int .i64 a0_1) ∧ w'.cell? ⟨gb165, 2, none⟩ = some (.int .i64 a0_2) ∧ w'.cell? ⟨gb165, 3, none⟩ = some (.int .i64 a0_3) ∧ w'.cell? ⟨gb165, 4, none⟩ = some (.string a0_4)) (ds := []) #[false, false, false, false, false, false, false, false, false, false, false, false] (by kernel_rfl) rfl rfl ⟨cy_ BK165 0, cy_ BK165 1, cy_ BK165 2, cy_ BK165 3, cy_ BK165 4⟩ (fun hHeld => ?_); refine with_tabW segment_form.tab12 segment_form.bits12 (fun HT_ HW_ => ?_)
   generalize w98.drew = w99 at BK165 BK166 HB hHeld ⊢
   refine pu_ 0 30 HT_ ?_
   refine pu_ 2 32 HT_ ?_
   refine pu_ 4 34 HT_ ?_
   refine tk_ 1 31 HT_ HW_ hHeld rfl (Or.inl ⟨by rfl, by rintro w' ⟨s0, s1, s2, s3, s4⟩; go_simp; with_reducible rfl⟩) ?_
   refine pu_ 6 36 HT_ ?_
   refine tk_ 3 33 HT_ HW_ hHeld rfl (Or.inl ⟨by rfl, by rintro w' ⟨s0, s1, s2, s3, s4⟩; go_simp; with_reducible rfl⟩) ?_
   refine tk_ 5 35 HT_ HW_ hHeld rfl (Or.inl ⟨by rfl, by rintro w' ⟨s0, s1, s2, s3, s4⟩; go_simp; with_reducible rfl⟩) ?_
   refine one_ (i := 7) (N := none) #[true, true, true, true, true, true, true, true, false, false, false, false] rfl rfl (one_of HT_.out (by kernel_rfl)) (by decide) (fun K hK => ?_)
   have hs100 : w99.cell? ⟨gb166, 1, none⟩ = some (.int .i64 0) := (blk_cell BK166.out 1).trans rfl
   have hfs100 := blk_frozen BK166.out 1
   have hns100_0 := NB165_166.out
   have hms100_0 := NB166_165.out
   refine skip_ (w1 := ?_) (by rfl) rfl ?_ ?_
   rotate_left
   ·
    go_simp
    rfl
   refine hK.out _ _ ⟨((cell_far (p := ⟨gb166, _, none⟩) NB165_166.out _).trans (hHeld.1)), ((cell_far (p := ⟨gb166, _, none⟩) NB165_166.out _).trans (hHeld.2.1)), ((cell_far (p := ⟨gb166, _, none⟩) NB165_166.out _).trans (hHeld.2.2.1)), ((cell_far (p := ⟨gb166, _, none⟩) NB165_166.out _).trans (hHeld.2.2.2.1)), ((cell_far (p := ⟨gb166, _, none⟩) NB165_166.out _).trans (hHeld.2.2.2.2))⟩ (fun hHeld => ?_)
   clear hK K
   refine pu_ 8 37 HT_ ?_
   refine one_ (i := 9) (N := none) #[true, true, true, true, true, true, true, true, true, true, false, false] rfl rfl (one_of HT_.out (by kernel_rfl)) (by decide) (fun K hK => ?_)
   have hs101 : w99.cell? ⟨gb166, 2, none⟩ = some (.int .i64 0) := (blk_cell BK166.out 2).trans rfl
   have hfs101 := blk_frozen BK166.out 2
   have hns101_0 := NB165_166.out
   have hms101_0 := NB166_165.out
   refine skip_ (w1 := ?_) (by rfl) rfl ?_ ?_
   rotate_left
   ·
    go_simp
    rfl
   refine hK.out _ _ ⟨((cell_far (p := ⟨gb166, _, none⟩) NB165_166.out _).trans (hHeld.1)), ((cell_far (p := ⟨gb166, _, none⟩) NB165_166.out _).trans (hHeld.2.1)), ((cell_far (p := ⟨gb166, _, none⟩) NB165_166.out _).trans (hHeld.2.2.1)), ((cell_far (p := ⟨gb166, _, none⟩) NB165_166.out _).trans (hHeld.2.2.2.1)), ((cell_far (p := ⟨gb166, _, none⟩) NB165_166.out _).trans (hHeld.2.2.2.2))⟩ (fun hHeld => ?_)
   clear hK K
   refine pu_ 10 38 HT_ ?_
   refine one_ (i := 11) (N := none) #[true, true, true, true, true, true, true, true, true, true, true, true] rfl rfl (one_of HT_.out (by kernel_rfl)) (by decide) (fun K hK => ?_)
   have hs102 : w99.cell? ⟨gb166, 4, none⟩ = some (.string (⟨#[]⟩ : ByteArray)) := (blk_cell BK166.out 4).trans rfl
   have hfs102 := blk_frozen BK166.out 4
   have hns102_0 := NB165_166.out
   have hms102_0 := NB166_165.out
   refine skip_ (w1 := ?_) (by rfl) rfl ?_ ?_
   rotate_left
   ·
    go_simp
    rfl
   refine hK.out _ _ ⟨((cell_far (p := ⟨gb166, _, none⟩) NB165_166.out _).trans (hHeld.1)), ((cell_far (p := ⟨gb166, _, none⟩) NB165_166.out _).trans (hHeld.2.1)), ((cell_far (p := ⟨gb166, _, none⟩) NB165_166.out _).trans (hHeld.2.2.1)), ((cell_far (p := ⟨gb166, _, none⟩) NB165_166.out _).trans (hHeld.2.2.2.1)), ((cell_far (p := ⟨gb166, _, none⟩) NB165_166.out _).trans (hHeld.2.2.2.2))⟩ (fun hHeld => ?_)
   clear hK K
   refine done_ (done_of HT_.out (by kernel_rfl)) ?_
   have hcz103_0 := cz_ BK165 0 (.int .i64 a0_0)
   have hcz103_1 := cz_ BK165 1 (.int .i64 a0_1)
   have hcz103_2 := cz_ BK165 2 (.int .i64 a0_2)
   have hcz103_3 := cz_ BK165 3 (.int .i64 a0_3)
   have hcz103_4 := cz_ BK165 4 (.string a0_4)
   have hfz103_0 := blk_frozen BK165.out 0
   have hfz103_1 := blk_frozen BK165.out 1
   have hfz103_2 := blk_frozen BK165.out 2
   have hfz103_3 := blk_frozen BK165.out 3
   have hfz103_4 := blk_frozen BK165.out 4
   have hcz104_0 := cz_ BK166 0 (.int .i64 a0_0)
   have hcz104_1 := cz_ BK166 1 (.int .i64 0)
   have hcz104_2 := cz_ BK166 2 (.int .i64 0)
   have hcz104_3 := cz_ BK166 3 (.int .i64 0)
   have hcz104_4 := cz_ BK166 4 (.string (⟨#[]⟩ : ByteArray))
   have hfz104_0 := blk_frozen BK166.out 0
   have hfz104_1 := blk_frozen BK166.out 1
   have hfz104_2 := blk_frozen BK166.out 2
   have hfz104_3 := blk_frozen BK166.out 3
   have hfz104_4 := blk_frozen BK166.out 4
   try go_wp2
   go_ret
   exact ⟨er_, pb_ HB⟩
  rw [if_neg c91] at H
  have c91b0 : (!(a0_3 == 0)) = false := by simpa using c91
  clear c91
  obtain rfl := Option.some.inj H
  go_enter Tryd.func41, Tryd.ntmps41
  try go_wp2_with (first | ((with_reducible refine gate_dst (N := 1) rfl ?_); refine bx_ 1 #[.int .i64 a0_0, .int .i64 a0_1, .int .i64 a0_2, .int .i64 a0_3, .string a0_4] 26 ?_; intro gb165 hg w105 hbox hb; have BK165 := Aside0.mk (hbox); have GW165 := gw_ hg HB; have GE165 := gw_ hg HB; replace HB := sb_ HB hb; clear hb hbox hg; have hcz106_0 := cz_ BK165 0 (.int .i64 a0_0); have hcz106_1 := cz_ BK165 1 (.int .i64 a0_1); have hcz106_2 := cz_ BK165 2 (.int .i64 a0_2); have hcz106_3 := cz_ BK165 3 (.int .i64 a0_3); have hcz106_4 := cz_ BK165 4 (.string a0_4); have hfz106_0 := blk_frozen BK165.out 0; have hfz106_1 := blk_frozen BK165.out 1; have hfz106_2 := blk_frozen BK165.out 2; have hfz106_3 := blk_frozen BK165.out 3; have hfz106_4 := blk_frozen BK165.out 4) | ((with_reducible refine gate_dst (N := 3) rfl ?_); refine bx_ 3 #[.int .i64 0, .int .i64 0, .int .i64 0, .int .i64 0, .string (⟨#[]⟩ : ByteArray)] 26 ?_; intro gb166 hg w107 hbox hb; have BK166 := Aside0.mk (hbox); have GW166 := gw_ hg HB; have GE166 := gw_ hg HB; replace HB := sb_ HB hb; have NB165_166 := nl_ hg BK165; have NB166_165 := ng_ hg BK165; replace BK165 := kb_ BK165 hb; clear hb hbox hg; have hnb108 := NB166_165.out; have hnc108 := NB165_166.out; have hcz109_0 := cz_ BK166 0 (.int .i64 0); have hcz109_1 := cz_ BK166 1 (.int .i64 0); have hcz109_2 := cz_ BK166 2 (.int .i64 0); have hcz109_3 := cz_ BK166 3 (.int .i64 0); have hcz109_4 := cz_ BK166 4 (.string (⟨#[]⟩ : ByteArray)); have hfz109_0 := blk_frozen BK166.out 0; have hfz109_1 := blk_frozen BK166.out 1; have hfz109_2 := blk_frozen BK166.out 2; have hfz109_3 := blk_frozen BK166.out 3; have hfz109_4 := blk_frozen BK166.out 4; have hcz110_0 := cz_ BK165 0 (.int .i64 a0_0); have hcz110_1 := cz_ BK165 1 (.int .i64 a0_1); have hcz110_2 := cz_ BK165 2 (.int .i64 a0_2); have hcz110_3 := cz_ BK165 3 (.int .i64 a0_3); have hcz110_4 := cz_ BK165 4 (.string a0_4); have hfz110_0 := blk_frozen BK165.out 0; have hfz110_1 := blk_frozen BK165.out 1; have hfz110_2 := blk_frozen BK165.out 2; have hfz110_3 := blk_frozen BK165.out 3; have hfz110_4 := blk_frozen BK165.out 4))
  have n0_ : Aside0 ((((((w107.setCell ⟨gb166, 0, none⟩ (.int .i64 a0_0)).setCell ⟨gb166, 1, none⟩ (.int .i64 0)).setCell ⟨gb166, 2, none⟩ (.int .i64 0)).setCell ⟨gb166, 3, none⟩ (.int .i64 0)).setCell ⟨gb166, 4, none⟩ (.string (⟨#[]⟩ : ByteArray))).heap[gb165]? = some (.cells #[.int .i64 a0_0, .int .i64 a0_1, .int .i64 a0_2, .int .i64 a0_3, .string a0_4] 26 (0, 0))) := ⟨by (with_reducible repeat (first | refine blk_drewN ?_ _ | refine blk_drew ?_ | refine blk_alloc ?_ _)); refine blk_far ?_ NB165_166.out _; (with_reducible repeat (first | refine blk_drewN ?_ _ | refine blk_drew ?_ | refine blk_alloc ?_ _)); refine blk_far ?_ NB165_166.out _; (with_reducible repeat (first | refine blk_drewN ?_ _ | refine blk_drew ?_ | refine blk_alloc ?_ _)); refine blk_far ?_ NB165_166.out _; (with_reducible repeat (first | refine blk_drewN ?_ _ | refine blk_drew ?_ | refine blk_alloc ?_ _)); refine blk_far ?_ NB165_166.out _; (with_reducible repeat (first | refine blk_drewN ?_ _ | refine blk_drew ?_ | refine blk_alloc ?_ _)); refine blk_far ?_ NB165_166.out _; (with_reducible repeat (first | refine blk_drewN ?_ _ | refine blk_drew ?_ | refine blk_alloc ?_ _)); exact BK165.out⟩
  have n1_ : Aside0 ((((((w107.setCell ⟨gb166, 0, none⟩ (.int .i64 a0_0)).setCell ⟨gb166, 1, none⟩ (.int .i64 0)).setCell ⟨gb166, 2, none⟩ (.int .i64 0)).setCell ⟨gb166, 3, none⟩ (.int .i64 0)).setCell ⟨gb166, 4, none⟩ (.string (⟨#[]⟩ : ByteArray))).heap[gb166]? = some (.cells #[.int .i64 a0_0, .int .i64 0, .int .i64 0, .int .i64 0, .string (⟨#[]⟩ : ByteArray)] 26 (0, 0))) := ⟨bq_ BK166⟩
  have n2_ : Aside0 (Below w.heap.size w (((((w107.setCell ⟨gb166, 0, none⟩ (.int .i64 a0_0)).setCell ⟨gb166, 1, none⟩ (.int .i64 0)).setCell ⟨gb166, 2, none⟩ (.int .i64 0)).setCell ⟨gb166, 3, none⟩ (.int .i64 0)).setCell ⟨gb166, 4, none⟩ (.string (⟨#[]⟩ : ByteArray)))) := ⟨pb_ HB⟩
  (try clear BK165)
  (try clear BK166)
  (try clear HB)
  generalize (((((w107.setCell ⟨gb166, 0, none⟩ (.int .i64 a0_0)).setCell ⟨gb166, 1, none⟩ (.int .i64 0)).setCell ⟨gb166, 2, none⟩ (.int .i64 0)).setCell ⟨gb166, 3, none⟩ (.int .i64 0)).setCell ⟨gb166, 4, none⟩ (.string (⟨#[]⟩ : ByteArray))) = w111 at n0_ n1_ n2_ ⊢
  have BK165 := n0_
  have BK166 := n1_
  have HB := n2_
  clear n0_ n1_ n2_
  replace BK165 := Aside0.mk (blk_drew BK165.out)
  replace BK166 := Aside0.mk (blk_drew BK166.out)
  replace HB := Aside0.mk (below_drew1 HB.out)
  refine start_ (n := 12) (S := fun w' => w'.cell? ⟨gb165, 0, none⟩ = some (.int .i64 a0_0) ∧ w'.cell? ⟨gb165, 1, none⟩ = some (.int .i64 a0_1) ∧ w'.cell? ⟨gb165, 2, none⟩ = some (.int .i64 a0_2) ∧ w'.cell? ⟨gb165, 3, none⟩ = some (.int .i64 a0_3) ∧ w'.cell? ⟨gb165, 4, none⟩ = some (.string a0_4)) (ds := []) #[false, false, false, false, false, false, false, false, false, false, false, false] (by kernel_rfl) rfl rfl ⟨cy_ BK165 0, cy_ BK165 1, cy_ BK165 2, cy_ BK165 3, cy_ BK165 4⟩ (fun hHeld => ?_); refine with_tabW segment_form.tab12 segment_form.bits12 (fun HT_ HW_ => ?_)
  generalize w111.drew = w112 at BK165 BK166 HB hHeld ⊢
  refine pu_ 0 30 HT_ ?_
  refine pu_ 2 32 HT_ ?_
  refine pu_ 4 34 HT_ ?_
  refine tk_ 1 31 HT_ HW_ hHeld rfl (Or.inl ⟨by rfl, by rintro w' ⟨s0, s1, s2, s3, s4⟩; go_simp; with_reducible rfl⟩) ?_
  refine pu_ 6 36 HT_ ?_
  refine tk_ 3 33 HT_ HW_ hHeld rfl (Or.inl ⟨by rfl, by rintro w' ⟨s0, s1, s2, s3, s4⟩; go_simp; with_reducible rfl⟩) ?_
  refine tk_ 5 35 HT_ HW_ hHeld rfl (Or.inl ⟨by rfl, by rintro w' ⟨s0, s1, s2, s3, s4⟩; go_simp; with_reducible rfl⟩) ?_
  refine one_ (i := 7) (N := none) #[true, true, true, true, true, true, true, true, false, false, false, false] rfl rfl (one_of HT_.out (by kernel_rfl)) (by decide) (fun K hK => ?_)
  have hs113 : w112.cell? ⟨gb166, 1, none⟩ = some (.int .i64 0) := (blk_cell BK166.out 1).trans rfl
  have hfs113 := blk_frozen BK166.out 1
  have hns113_0 := NB165_166.out
  have hms113_0 := NB166_165.out
  refine skip_ (w1 := ?_) (by rfl) rfl ?_ ?_
  rotate_left
  ·
   go_simp
   rfl
  refine hK.out _ _ ⟨((cell_far (p := ⟨gb166, _, none⟩) NB165_166.out _).trans (hHeld.1)), ((cell_far (p := ⟨gb166, _, none⟩) NB165_166.out _).trans (hHeld.2.1)), ((cell_far (p := ⟨gb166, _, none⟩) NB165_166.out _).trans (hHeld.2.2.1)), ((cell_far (p := ⟨gb166, _, none⟩) NB165_166.out _).trans (hHeld.2.2.2.1)), ((cell_far (p := ⟨gb166, _, none⟩) NB165_166.out _).trans (hHeld.2.2.2.2))⟩ (fun hHeld => ?_)
  clear hK K
  refine pu_ 8 37 HT_ ?_
  refine one_ (i := 9) (N := none) #[true, true, true, true, true, true, true, true, true, true, false, false] rfl rfl (one_of HT_.out (by kernel_rfl)) (by decide) (fun K hK => ?_)
  have hs114 : w112.cell? ⟨gb166, 2, none⟩ = some (.int .i64 0) := (blk_cell BK166.out 2).trans rfl
  have hfs114 := blk_frozen BK166.out 2
  have hns114_0 := NB165_166.out
  have hms114_0 := NB166_165.out
  refine skip_ (w1 := ?_) (by rfl) rfl ?_ ?_
  rotate_left
  ·
   go_simp
   rfl
  refine hK.out _ _ ⟨((cell_far (p := ⟨gb166, _, none⟩) NB165_166.out _).trans (hHeld.1)), ((cell_far (p := ⟨gb166, _, none⟩) NB165_166.out _).trans (hHeld.2.1)), ((cell_far (p := ⟨gb166, _, none⟩) NB165_166.out _).trans (hHeld.2.2.1)), ((cell_far (p := ⟨gb166, _, none⟩) NB165_166.out _).trans (hHeld.2.2.2.1)), ((cell_far (p := ⟨gb166, _, none⟩) NB165_166.out _).trans (hHeld.2.2.2.2))⟩ (fun hHeld => ?_)
  clear hK K
  refine pu_ 10 38 HT_ ?_
  refine one_ (i := 11) (N := none) #[true, true, true, true, true, true, true, true, true, true, true, true] rfl rfl (one_of HT_.out (by kernel_rfl)) (by decide) (fun K hK => ?_)
  have hs115 : w112.cell? ⟨gb166, 4, none⟩ = some (.string (⟨#[]⟩ : ByteArray)) := (blk_cell BK166.out 4).trans rfl
  have hfs115 := blk_frozen BK166.out 4
  have hns115_0 := NB165_166.out
  have hms115_0 := NB166_165.out
  refine skip_ (w1 := ?_) (by rfl) rfl ?_ ?_
  rotate_left
  ·
   go_simp
   rfl
  refine hK.out _ _ ⟨((cell_far (p := ⟨gb166, _, none⟩) NB165_166.out _).trans (hHeld.1)), ((cell_far (p := ⟨gb166, _, none⟩) NB165_166.out _).trans (hHeld.2.1)), ((cell_far (p := ⟨gb166, _, none⟩) NB165_166.out _).trans (hHeld.2.2.1)), ((cell_far (p := ⟨gb166, _, none⟩) NB165_166.out _).trans (hHeld.2.2.2.1)), ((cell_far (p := ⟨gb166, _, none⟩) NB165_166.out _).trans (hHeld.2.2.2.2))⟩ (fun hHeld => ?_)
  clear hK K
  refine done_ (done_of HT_.out (by kernel_rfl)) ?_
  have hcz116_0 := cz_ BK165 0 (.int .i64 a0_0)
  have hcz116_1 := cz_ BK165 1 (.int .i64 a0_1)
  have hcz116_2 := cz_ BK165 2 (.int .i64 a0_2)
  have hcz116_3 := cz_ BK165 3 (.int .i64 a0_3)
  have hcz116_4 := cz_ BK165 4 (.string a0_4)
  have hfz116_0 := blk_frozen BK165.out 0
  have hfz116_1 := blk_frozen BK165.out 1
  have hfz116_2 := blk_frozen BK165.out 2
  have hfz116_3 := blk_frozen BK165.out 3
  have hfz116_4 := blk_frozen BK165.out 4
  have hcz117_0 := cz_ BK166 0 (.int .i64 a0_0)
  have hcz117_1 := cz_ BK166 1 (.int .i64 0)
  have hcz117_2 := cz_ BK166 2 (.int .i64 0)
  have hcz117_3 := cz_ BK166 3 (.int .i64 0)
  have hcz117_4 := cz_ BK166 4 (.string (⟨#[]⟩ : ByteArray))
  have hfz117_0 := blk_frozen BK166.out 0
  have hfz117_1 := blk_frozen BK166.out 1
  have hfz117_2 := blk_frozen BK166.out 2
  have hfz117_3 := blk_frozen BK166.out 3
  have hfz117_4 := blk_frozen BK166.out 4
  try go_wp2
  go_ret
  exact ⟨er_, pb_ HB⟩
 rw [if_neg c90] at H
 have c90b0 : (a0_0 == 4) = false := beq_eq_false_iff_ne.mpr c90
 have c90b1 : (a0_0 != 4) = true := bne_iff_ne.mpr c90
 obtain rfl := Option.some.inj H
 go_enter Tryd.func41, Tryd.ntmps41
 go_wp2_with (first | ((with_reducible refine gate_dst (N := 1) rfl ?_); refine bx_ 1 #[.int .i64 a0_0, .int .i64 a0_1, .int .i64 a0_2, .int .i64 a0_3, .string a0_4] 26 ?_; intro gb165 hg w118 hbox hb; have BK165 := Aside0.mk (hbox); have GW165 := gw_ hg HB; have GE165 := gw_ hg HB; replace HB := sb_ HB hb; clear hb hbox hg; have hcz119_0 := cz_ BK165 0 (.int .i64 a0_0); have hcz119_1 := cz_ BK165 1 (.int .i64 a0_1); have hcz119_2 := cz_ BK165 2 (.int .i64 a0_2); have hcz119_3 := cz_ BK165 3 (.int .i64 a0_3); have hcz119_4 := cz_ BK165 4 (.string a0_4); have hfz119_0 := blk_frozen BK165.out 0; have hfz119_1 := blk_frozen BK165.out 1; have hfz119_2 := blk_frozen BK165.out 2; have hfz119_3 := blk_frozen BK165.out 3; have hfz119_4 := blk_frozen BK165.out 4) | ((with_reducible refine gate_dst (N := 3) rfl ?_); refine bx_ 3 #[.int .i64 0, .int .i64 0, .int .i64 0, .int .i64 0, .string (⟨#[]⟩ : ByteArray)] 26 ?_; intro gb166 hg w120 hbox hb; have BK166 := Aside0.mk (hbox); have GW166 := gw_ hg HB; have GE166 := gw_ hg HB; replace HB := sb_ HB hb; have NB165_166 := nl_ hg BK165; have NB166_165 := ng_ hg BK165; replace BK165 := kb_ BK165 hb; clear hb hbox hg; have hnb121 := NB166_165.out; have hnc121 := NB165_166.out; have hcz122_0 := cz_ BK166 0 (.int .i64 0); have hcz122_1 := cz_ BK166 1 (.int .i64 0); have hcz122_2 := cz_ BK166 2 (.int .i64 0); have hcz122_3 := cz_ BK166 3 (.int .i64 0); have hcz122_4 := cz_ BK166 4 (.string (⟨#[]⟩ : ByteArray)); have hfz122_0 := blk_frozen BK166.out 0; have hfz122_1 := blk_frozen BK166.out 1; have hfz122_2 := blk_frozen BK166.out 2; have hfz122_3 := blk_frozen BK166.out 3; have hfz122_4 := blk_frozen BK166.out 4; have hcz123_0 := cz_ BK165 0 (.int .i64 a0_0); have hcz123_1 := cz_ BK165 1 (.int .i64 a0_1); have hcz123_2 := cz_ BK165 2 (.int .i64 a0_2); have hcz123_3 := cz_ BK165 3 (.int .i64 a0_3); have hcz123_4 := cz_ BK165 4 (.string a0_4); have hfz123_0 := blk_frozen BK165.out 0; have hfz123_1 := blk_frozen BK165.out 1; have hfz123_2 := blk_frozen BK165.out 2; have hfz123_3 := blk_frozen BK165.out 3; have hfz123_4 := blk_frozen BK165.out 4))
 go_ret
 exact ⟨er_, pb_ HB⟩
def segment_with.f (l0_0 : List (S46)) (a0_1 : Int) (a1 : Int) (a2 : ByteArray) : Option ((List (S46)) × Int) := (api_Segment_23.f l0_0).bind fun t169 => (if 0 ≤ a1 then (if a1 < (t169.length : Int) then (some ((t169.set (a1 : Int).toNat (⟨(rd_T46 t169 a1).f0, a2⟩ : S46)), a0_1)) else (none)) else (none))
def segment_with.T1 : Bool × List (List Nat × List Nat) := (true, [([], []), ([0], [0]), ([1], [1]), ([], []), ([3], [3]), ([2, 4], [2, 4]), ([], []), ([6, 5, 2, 0, 1, 2, 3, 4, 5, 6], [5, 6])])
def segment_with.B1 : List Nat := [0, 1, 3, 0, 8, 31, 0, 127]
theorem segment_with.tab1 : rtab .any (opsOf Tryd.f57 1) = segment_with.T1 := by kernel_rfl
theorem segment_with.bits1 : waitsOk segment_with.T1.2 segment_with.B1 = true := by kernel_rfl
set_option maxHeartbeats 8000000 in
set_option maxRecDepth 100000 in
theorem segment_with.calls (A0_0 : Option Addr) (c0_0 : Nat) (l0_0 : List (S46)) (a0_1 : Int) (a1 : Int) (a2 : ByteArray) (r1 : List (S46)) (r2 : Int) (w : World) (hr0_0 : Kd.C k46 w A0_0 l0_0.length l0_0) (hc0_0 : l0_0.length ≤ c0_0) (h : segment_with.f l0_0 a0_1 a1 a2 = some (r1, r2)) :
  Calls Tryd.prog 57 #[.agg #[.slice A0_0 l0_0.length c0_0, .int .i64 a0_1], .int .i64 a1, .string a2] w fun e w' => ∃ v0_ : Value, e = .returned (.agg #[v0_, .int .i64 r2]) ∧ Kd.R k46 46 w' w.heap.size (fun _ => True) v0_ r1 ∧ Below w.heap.size w w' := by
 have hu24 := Tryd.underlying24
 have HR0_0 := Aside0.mk hr0_0
 have HC0_0 := Aside0.mk hc0_0
 clear hr0_0 hc0_0
 have HB := Aside0.mk (Below.refl w.heap.size w)
 have H : ((api_Segment_23.f l0_0).bind fun t169 => (if 0 ≤ a1 then (if a1 < (t169.length : Int) then (some ((t169.set (a1 : Int).toNat (⟨(rd_T46 t169 a1).f0, a2⟩ : S46)), a0_1)) else (none)) else (none))) = some (r1, r2) := h
 clear h
 replace H := Option.bind_eq_some_iff.mp H
 obtain ⟨t169, A40, H⟩ := H
 replace H : (if 0 ≤ a1 then (if a1 < (t169.length : Int) then (some ((t169.set (a1 : Int).toNat (⟨(rd_T46 t169 a1).f0, a2⟩ : S46)), a0_1)) else (none)) else (none)) = some (r1, r2) := H
 have A4 := Aside0.mk A40
 clear A40
 by_cases c5 : 0 ≤ a1
 ·
  rw [if_pos c5] at H
  have c5b0 : decide (0 ≤ a1) = true := decide_eq_true c5
  clear c5
  by_cases c6 : a1 < (t169.length : Int)
  ·
   rw [if_pos c6] at H
   have c6b0 : decide (a1 < (t169.length : Int)) = true := decide_eq_true c6
   clear c6
   obtain ⟨y173, hy173⟩ : ∃ y_ : List (S46), y_ = (t169.set (a1 : Int).toNat (⟨(rd_T46 t169 a1).f0, a2⟩ : S46)) := ⟨_, rfl⟩
   replace H : (some (y173, a0_1)) = some (r1, r2) := by first | (rw [hy173]; with_reducible exact H) | (have H2_ := (Option.bind_some _ _).symm.trans H; rw [hy173]; with_reducible exact H2_) | (have H2_ := (Option.bind_some _ _).symm.trans H; with_reducible exact H2_) | with_reducible exact H | (rw [hy173]; exact H) | exact H
   have Ny173 := Aside0.mk hy173
   clear hy173
   simp only [Option.some.injEq, Prod.mk.injEq] at H
   obtain ⟨rfl, rfl⟩ := H
   go_enter Tryd.func57, Tryd.ntmps57
   try go_wp2_with (first | ((with_reducible refine gate_dst (N := 3) rfl ?_); refine bx_ 3 #[.slice A0_0 l0_0.length c0_0, .int .i64 a0_1] 24 ?_; intro gb167 hg w8 hbox hb; have BK167 := Aside0.mk (hbox); have GW167 := gw_ hg HB; have GE167 := gw_ hg HB; replace HB := sb_ HB hb; clear hb hbox hg) | ((with_reducible refine gate_dst (N := 6) rfl ?_); refine bx_ 6 #[.slice none 0 0, .int .i64 0] 24 ?_; intro gb168 hg w9 hbox hb; have BK168 := Aside0.mk (hbox); have GW168 := gw_ hg HB; have GE168 := gw_ hg HB; replace HB := sb_ HB hb; have NB167_168 := nl_ hg BK167; have NB168_167 := ng_ hg BK167; replace BK167 := kb_ BK167 hb; clear hb hbox hg))
   replace BK167 := Aside0.mk (blk_drew BK167.out)
   replace BK168 := Aside0.mk (blk_drew BK168.out)
   replace HB := Aside0.mk (below_drew1 HB.out)
   refine start_ (n := 8) (S := fun w' => w'.cell? ⟨gb167, 0, none⟩ = some (.slice A0_0 l0_0.length c0_0) ∧ w'.cell? ⟨gb167, 1, none⟩ = some (.int .i64 a0_1)) (ds := []) #[false, false, false, false, false, false, false, false] (by kernel_rfl) rfl rfl ⟨cy_ BK167 0, cy_ BK167 1⟩ (fun hHeld => ?_); refine with_tabW segment_with.tab1 segment_with.bits1 (fun HT_ HW_ => ?_)
   generalize w9.drew = w10 at BK167 BK168 HB hHeld ⊢
   refine pu_ 0 8 HT_ ?_
   refine pu_ 3 11 HT_ ?_
   refine tk_ 1 9 HT_ HW_ hHeld rfl (Or.inl ⟨by rfl, by rintro w' ⟨s0, s1⟩; go_simp; with_reducible rfl⟩) ?_
   refine tk_ 4 12 HT_ HW_ hHeld rfl (Or.inl ⟨by rfl, by rintro w' ⟨s0, s1⟩; go_simp; with_reducible rfl⟩) ?_
   refine join_ (σ := Value × Nat) 1 #[true, true, true, true, true, true, true, false] (fun s_ => [(10, s_.1), (7, .pointer (some ⟨s_.2, 0, none⟩)), (13, .agg #[s_.1, .int .i64 a0_1])]) (fun s_ w' => (w'.cell? ⟨gb167, 0, none⟩ = some (.slice A0_0 l0_0.length c0_0) ∧ w'.cell? ⟨gb167, 1, none⟩ = some (.int .i64 a0_1)) ∧ (Kd.R k46 46 w' w.heap.size (fun _ => True) s_.1 t169) ∧ (w'.heap[gb167]? = some (.cells #[.slice A0_0 l0_0.length c0_0, .int .i64 a0_1] 24 (0, 0))) ∧ (w'.heap[gb168]? = some (.cells #[.slice none 0 0, .int .i64 0] 24 (0, 0))) ∧ (w'.heap[s_.2]? = some (.cells #[.slice none 0 0, .int .i64 0] 24 (0, 0))) ∧ (w.heap.size ≤ s_.2) ∧ (w.heap.size ≤ s_.2) ∧ (gb167 ≠ s_.2) ∧ (s_.2 ≠ gb167) ∧ (gb168 ≠ s_.2) ∧ (s_.2 ≠ gb168) ∧ (Below w.heap.size w w')) ?_ ?_
   rotate_left
   ·
    intro hCont
    refine two_ (i := 2) (j := 6) (Ni := some 10) (Nj := some 7) #[true, true, true, true, true, false, false, false] #[true, true, false, true, true, false, true, false] rfl rfl rfl rfl (two_of HT_.out (by kernel_rfl)) (by decide) (by decide) (fun K hK => ?_) (fun K hK => ?_)
    ·
     refine goes_ Tryd.func23 (by kernel_rfl) rfl #[.slice A0_0 l0_0.length c0_0] (by rfl) rfl rfl (by (try simp only [List.map_toArray, List.map_cons, List.map_nil]); first | done | rfl | (simp only [List.length_drop, List.length_take]; rfl)) ?_
     with_reducible refine (api_Segment_23.calls _ _ l0_0 t169 _ ?side1 ?side2 A4.out).mono ?_
     (case side1 => exact pc_ (Kd.C_below HR0_0.out HB.out))
     (case side2 => exact HC0_0.out)
     rintro e w11 ⟨v170, rfl, ho0, hb⟩
     refine ⟨_, rfl, ?_⟩
     have HO171 := Aside0.mk (Kd.R_lower ho0 (below_size (pb_ HB)))
     replace BK167 := kb_ BK167 hb
     replace BK168 := kb_ BK168 hb
     replace HB := sb_ HB hb
     (try clear hb)
     (try clear hb2)
     (try clear hk)
     (try clear hi)
     (try clear ho0)
     obtain ⟨Ao12, co12, eo12⟩ := Kd.R_slice HO171.out
     (first | subst eo12 | (injection eo12 with f1_ f2_ f3_; have f4_ := f1_.symm; have f5_ := f3_.symm; clear f1_ f2_ f3_; subst f4_; subst f5_))
     refine hK.out _ _ ⟨cy_ BK167 0, cy_ BK167 1⟩ (fun hHeld => ?_)
     clear hK K
     refine nn_ 10 ?_
     refine pu_ 5 13 HT_ ?_
     refine one_ (i := 6) (N := some 7) #[true, true, true, true, true, true, true, false] rfl rfl (one_of HT_.out (by kernel_rfl)) (by decide) (fun K hK => ?_)
     refine box_step ?hg (N := 7) ?hd (cs := #[.slice none 0 0, .int .i64 0]) (t := 24) ?hr ?_; (case hd => rfl); (case hg => rfl); (case hr => first | (go_simp; done) | (go_simp; rfl))
     intro gb172 hg w13 hbox hb
     replace HO171 := Aside0.mk (Kd.R_below (rk_ HO171) hb)
     have BK172 := Aside0.mk (hbox)
     have GW172 := gw_ hg HB
     have GE172 := gw_ hg HB
     replace HB := sb_ HB hb
     have NB167_172 := nl_ hg BK167
     have NB172_167 := ng_ hg BK167
     replace BK167 := kb_ BK167 hb
     have NB168_172 := nl_ hg BK168
     have NB172_168 := ng_ hg BK168
     replace BK168 := kb_ BK168 hb
     clear hb hbox hg
     refine hK.out _ _ ⟨cy_ BK167 0, cy_ BK167 1⟩ (fun hHeld => ?_)
     clear hK K
     refine nn_ 7 ?_
     exact norm_ (by simp only [putAll, Act.put, List.setIfInBounds_toArray, List.set_cons_zero, List.set_cons_succ]) (hCont (.slice Ao12 t169.length co12, gb172) _ ⟨hHeld, (rk_ HO171), (pk_ BK167), (pk_ BK168), (pk_ BK172), GW172.out, GE172.out, NB167_172.out, NB172_167.out, NB168_172.out, NB172_168.out, (pb_ HB)⟩)
    skip
    refine box_step ?hg (N := 7) ?hd (cs := #[.slice none 0 0, .int .i64 0]) (t := 24) ?hr ?_; (case hd => rfl); (case hg => rfl); (case hr => first | (go_simp; done) | (go_simp; rfl))
    intro gb172 hg w11 hbox hb
    have BK172 := Aside0.mk (hbox)
    have GW172 := gw_ hg HB
    have GE172 := gw_ hg HB
    replace HB := sb_ HB hb
    have NB167_172 := nl_ hg BK167
    have NB172_167 := ng_ hg BK167
    replace BK167 := kb_ BK167 hb
    have NB168_172 := nl_ hg BK168
    have NB172_168 := ng_ hg BK168
    replace BK168 := kb_ BK168 hb
    clear hb hbox hg
    refine hK.out _ _ ⟨cy_ BK167 0, cy_ BK167 1⟩ (fun hHeld => ?_)
    clear hK K
    refine nn_ 7 ?_
    refine one_ (i := 2) (N := some 10) #[true, true, true, true, true, false, true, false] rfl rfl (one_of HT_.out (by kernel_rfl)) (by decide) (fun K hK => ?_)
    refine goes_ Tryd.func23 (by kernel_rfl) rfl #[.slice A0_0 l0_0.length c0_0] (by rfl) rfl rfl (by (try simp only [List.map_toArray, List.map_cons, List.map_nil]); first | done | rfl | (simp only [List.length_drop, List.length_take]; rfl)) ?_
    with_reducible refine (api_Segment_23.calls _ _ l0_0 t169 _ ?side1 ?side2 A4.out).mono ?_
    (case side1 => exact pc_ (Kd.C_below HR0_0.out HB.out))
    (case side2 => exact HC0_0.out)
    rintro e w12 ⟨v170, rfl, ho0, hb⟩
    refine ⟨_, rfl, ?_⟩
    have HO171 := Aside0.mk (Kd.R_lower ho0 (below_size (pb_ HB)))
    replace BK167 := kb_ BK167 hb
    replace BK168 := kb_ BK168 hb
    replace BK172 := kb_ BK172 hb
    replace HB := sb_ HB hb
    (try clear hb)
    (try clear hb2)
    (try clear hk)
    (try clear hi)
    (try clear ho0)
    obtain ⟨Ao13, co13, eo13⟩ := Kd.R_slice HO171.out
    (first | subst eo13 | (injection eo13 with f1_ f2_ f3_; have f4_ := f1_.symm; have f5_ := f3_.symm; clear f1_ f2_ f3_; subst f4_; subst f5_))
    refine hK.out _ _ ⟨cy_ BK167 0, cy_ BK167 1⟩ (fun hHeld => ?_)
    clear hK K
    refine nn_ 10 ?_
    refine pu_ 5 13 HT_ ?_
    exact norm_ (by simp only [putAll, Act.put, List.setIfInBounds_toArray, List.set_cons_zero, List.set_cons_succ]) (hCont (.slice Ao13 t169.length co13, gb172) _ ⟨hHeld, (rk_ HO171), (pk_ BK167), (pk_ BK168), (pk_ BK172), GW172.out, GE172.out, NB167_172.out, NB172_167.out, NB168_172.out, NB172_168.out, (pb_ HB)⟩)
   clear BK167 BK168 HB
   rintro ⟨v170, gb172⟩ w14 ⟨hHeld, HO171, BK167, BK168, BK172, GW172, GE172, NB167_172, NB172_167, NB168_172, NB172_168, HB⟩
   try dsimp only at hHeld HO171 BK167 BK168 BK172 GW172 GE172 NB167_172 NB172_167 NB168_172 NB172_168 HB
   replace HO171 := Aside0.mk HO171
   replace BK167 := Aside0.mk BK167
   replace BK168 := Aside0.mk BK168
   replace BK172 := Aside0.mk BK172
   replace GW172 := Aside0.mk GW172
   replace GE172 := Aside0.mk GE172
   replace NB167_172 := Aside0.mk NB167_172
   replace NB172_167 := Aside0.mk NB172_167
   replace NB168_172 := Aside0.mk NB168_172
   replace NB172_168 := Aside0.mk NB172_168
   replace HB := Aside0.mk HB
   obtain ⟨Ao15, co15, eo15⟩ := Kd.R_slice HO171.out
   (first | subst eo15 | (injection eo15 with f1_ f2_ f3_; have f4_ := f1_.symm; have f5_ := f3_.symm; clear f1_ f2_ f3_; subst f4_; subst f5_))
   refine nm_ ?_
   refine one_ (i := 7) (N := none) #[true, true, true, true, true, true, true, true] rfl rfl (one_of HT_.out (by kernel_rfl)) (by decide) (fun K hK => ?_)
   have hs16 : w14.cell? ⟨gb172, 0, none⟩ = some (.slice none 0 0) := (blk_cell BK172.out 0).trans rfl
   have hfs16 := blk_frozen BK172.out 0
   have hns16_0 := NB167_172.out
   have hns16_1 := NB168_172.out
   have hms16_0 := NB172_167.out
   have hms16_1 := NB172_168.out
   have hs17 : w14.cell? ⟨gb172, 1, none⟩ = some (.int .i64 0) := (blk_cell BK172.out 1).trans rfl
   have hfs17 := blk_frozen BK172.out 1
   have hns17_0 := NB167_172.out
   have hns17_1 := NB168_172.out
   have hms17_0 := NB172_167.out
   have hms17_1 := NB172_168.out
   refine skip_ (w1 := ?_) (by rfl) rfl ?_ ?_
   rotate_left
   ·
    go_simp
    rfl
   refine hK.out _ _ ⟨((cell_far (p := ⟨gb172, _, none⟩) NB167_172.out _).trans (((cell_far (p := ⟨gb172, _, none⟩) NB167_172.out _).trans (hHeld.1)))), ((cell_far (p := ⟨gb172, _, none⟩) NB167_172.out _).trans (((cell_far (p := ⟨gb172, _, none⟩) NB167_172.out _).trans (hHeld.2))))⟩ (fun hHeld => ?_)
   clear hK K
   refine done_ (done_of HT_.out (by kernel_rfl)) ?_
   have n0_ : Aside0 (Kd.R k46 46 ((w14.setCell ⟨gb172, 0, none⟩ (.slice Ao15 t169.length co15)).setCell ⟨gb172, 1, none⟩ (.int .i64 a0_1)) w.heap.size (fun _ => True) (.slice Ao15 t169.length co15) t169) := ⟨by (with_reducible repeat (first | apply Kd.R_alloc | apply Kd.R_drewN | apply Kd.R_drew)); exact Kd.R_mono (Kd.R_far (p := ⟨gb172, 1, none⟩) (Kd.R_far (p := ⟨gb172, 0, none⟩) (Kd.R_types HO171.out BK172.out (by decide)) (fun _ hk => hk.2) (.slice Ao15 t169.length co15)) (fun _ hk => hk.2) (.int .i64 a0_1)) (fun _ hk => trivial)⟩
   have n1_ : Aside0 (((w14.setCell ⟨gb172, 0, none⟩ (.slice Ao15 t169.length co15)).setCell ⟨gb172, 1, none⟩ (.int .i64 a0_1)).heap[gb167]? = some (.cells #[.slice A0_0 l0_0.length c0_0, .int .i64 a0_1] 24 (0, 0))) := ⟨by (with_reducible repeat (first | refine blk_drewN ?_ _ | refine blk_drew ?_ | refine blk_alloc ?_ _)); refine blk_far ?_ NB167_172.out _; (with_reducible repeat (first | refine blk_drewN ?_ _ | refine blk_drew ?_ | refine blk_alloc ?_ _)); refine blk_far ?_ NB167_172.out _; (with_reducible repeat (first | refine blk_drewN ?_ _ | refine blk_drew ?_ | refine blk_alloc ?_ _)); exact BK167.out⟩
   have n2_ : Aside0 (((w14.setCell ⟨gb172, 0, none⟩ (.slice Ao15 t169.length co15)).setCell ⟨gb172, 1, none⟩ (.int .i64 a0_1)).heap[gb168]? = some (.cells #[.slice none 0 0, .int .i64 0] 24 (0, 0))) := ⟨by (with_reducible repeat (first | refine blk_drewN ?_ _ | refine blk_drew ?_ | refine blk_alloc ?_ _)); refine blk_far ?_ NB168_172.out _; (with_reducible repeat (first | refine blk_drewN ?_ _ | refine blk_drew ?_ | refine blk_alloc ?_ _)); refine blk_far ?_ NB168_172.out _; (with_reducible repeat (first | refine blk_drewN ?_ _ | refine blk_drew ?_ | refine blk_alloc ?_ _)); exact BK168.out⟩
   have n3_ : Aside0 (((w14.setCell ⟨gb172, 0, none⟩ (.slice Ao15 t169.length co15)).setCell ⟨gb172, 1, none⟩ (.int .i64 a0_1)).heap[gb172]? = some (.cells #[.slice Ao15 t169.length co15, .int .i64 a0_1] 24 (0, 0))) := ⟨bq_ BK172⟩
   have n4_ : Aside0 (Below w.heap.size w ((w14.setCell ⟨gb172, 0, none⟩ (.slice Ao15 t169.length co15)).setCell ⟨gb172, 1, none⟩ (.int .i64 a0_1))) := ⟨pb_ HB⟩
   (try clear HO171)
   (try clear BK167)
   (try clear BK168)
   (try clear BK172)
   (try clear HB)
   generalize ((w14.setCell ⟨gb172, 0, none⟩ (.slice Ao15 t169.length co15)).setCell ⟨gb172, 1, none⟩ (.int .i64 a0_1)) = w18 at n0_ n1_ n2_ n3_ n4_ ⊢
   have HO171 := n0_
   have BK167 := n1_
   have BK168 := n2_
   have BK172 := n3_
   have HB := n4_
   clear n0_ n1_ n2_ n3_ n4_
   have hnb19 := NB172_167.out
   have hnc19 := NB167_172.out
   have hnb20 := NB172_168.out
   have hnc20 := NB168_172.out
   have hcz21_0 := cz_ BK172 0 (.slice Ao15 t169.length co15)
   have hcz21_1 := cz_ BK172 1 (.int .i64 a0_1)
   have hfz21_0 := blk_frozen BK172.out 0
   have hfz21_1 := blk_frozen BK172.out 1
   have p7 : 0 ≤ (a1 : Int) := ct_
   have q7 : (a1 : Int) < ((t169.length : Int) : Int) := ct_
   obtain ⟨go7, co7, eo7, gb7, gl7, cl7, HG7⟩ := Kd.R_form HO171.out (by omega)
   (first | cases eo7 | (injection eo7 with ea_ en_ ec_; (first | subst ea_ | (injection ea_ with ea_; subst ea_)); subst ec_; clear en_))
   have GB7 := Aside0.mk gb7
   have GG7 := Aside0.mk HG7
   clear gb7 gl7 HG7
   obtain ⟨ce7, hcl7, hM7, hcc7, hfr7⟩ := Kd.R_elem HO171.out z46 (a1 : Int) p7 q7
   obtain rfl := k46_openM hM7
   have hx7_0 : w18.cell? ⟨go7, (a1 : Int).toNat * 2, none⟩ = some (.int .i64 ((rd_T46 t169 a1).f0)) := hcc7 0 _ rfl
   have hx7_1 : w18.cell? ⟨go7, (a1 : Int).toNat * 2 + 1, none⟩ = some (.string ((rd_T46 t169 a1).f1)) := hcc7 1 _ rfl
   have hf7_0 : w18.frozen? ⟨go7, (a1 : Int).toNat * 2, none⟩ = false := hfr7 0
   have hf7_1 : w18.frozen? ⟨go7, (a1 : Int).toNat * 2 + 1, none⟩ = false := hfr7 1
   clear hcl7 hcc7 hfr7 hM7
   replace p7 := eq_true p7
   replace q7 := eq_true q7
   have HX22 := Aside0.mk (show Kd.R k46 46 w18 w.heap.size (fun _ => True) (.slice (some ⟨go7, 0, none⟩) t169.length co15) t169 from (rk_ HO171))
   obtain ⟨ce22, hcl22, hM22, hcc22, hfr22⟩ := Kd.R_elem HX22.out z46 (a1 : Int) (ct_) (by have h_ : (a1 : Int) < ((t169.length : Int) : Int) := ct_; first | exact h_ | (have e_ := (Kd.R_reads' HO171.out).1; omega) | simpa using h_)
   obtain rfl := k46_openM hM22
   have HP22 := Kd.R_seg HX22.out (a1 : Int) (ct_) (by have h_ : (a1 : Int) < ((t169.length : Int) : Int) := ct_; first | exact h_ | (have e_ := (Kd.R_reads' HO171.out).1; omega) | simpa using h_) (seg := [.string a2]) (j := 1) hcl22 hcc22 (show 2 ≤ 2 from by decide) (x' := (⟨(rd_T46 t169 a1).f0, a2⟩ : S46)) (k46_mkM _ _ _ (⟨(rd_T46 t169 a1).f0, a2⟩ : S46) ) (fun _ hk => hk)
   have hx22_1 := hcc22 1 _ rfl
   (try simp only [show (k46).sz = 2 from rfl, Nat.mul_one, Nat.add_zero] at hx22_1)
   have hf22_1 := hfr22 1
   (try simp only [show (k46).sz = 2 from rfl, Nat.mul_one, Nat.add_zero] at hf22_1)
   clear hcl22 hcc22 hfr22 hM22
   try go_wp2_with (first | ((with_reducible refine gate_store (t := 9) (p := 19) rfl ?_); refine store_event (t := 9) (p := 19) (v := ?vo_w23) (w1 := (w18.setCell ⟨go7, (a1 : Int).toNat * 2 + 1, none⟩ (.string a2))) ?hg ?ho ?hn ?hr ?_; (case ho => rfl); (case hg => rfl); (case hn => rfl); (case hr => first | (go_simp; done) | (go_simp; rfl)); intro w23 hw; have hg : w18.grownBy w23 (some go7) := (by rw [hw]; exact HP22.2); have hp_ : Kd.R k46 46 w23 w.heap.size (fun _ => True) (.slice (some ⟨go7, 0, none⟩) t169.length co15) y173 := (by rw [hw, Ny173.out]; exact HP22.1); clear HP22; replace BK167 := Aside0.mk (blk_grown (g := gb167) (o := .cells #[.slice A0_0 l0_0.length c0_0, .int .i64 a0_1] 24 (0, 0)) (pk_ BK167) hg (Kd.R_ne HO171.out BK167.out (by decide))); replace BK168 := Aside0.mk (blk_grown (g := gb168) (o := .cells #[.slice none 0 0, .int .i64 0] 24 (0, 0)) (pk_ BK168) hg (Kd.R_ne HO171.out BK168.out (by decide))); replace BK172 := Aside0.mk (blk_grown (g := gb172) (o := .cells #[.slice (some ⟨go7, 0, none⟩) t169.length co15, .int .i64 a0_1] 24 (0, 0)) (pk_ BK172) hg (Kd.R_ne HO171.out BK172.out (by decide))); replace HO171 := Aside0.mk (hp_); replace HB := Aside0.mk ((by rw [hw]; exact below_set (HB.out) GB7.out : Below w.heap.size w w23)); clear hg hw hp_; have hcz24_0 := cz_ BK172 0 (.slice (some ⟨go7, 0, none⟩) t169.length co15); have hcz24_1 := cz_ BK172 1 (.int .i64 a0_1); have hfz24_0 := blk_frozen BK172.out 0; have hfz24_1 := blk_frozen BK172.out 1; have hnb25 := NB168_167.out; have hnc25 := NB167_168.out; have hcz26_0 := cz_ BK168 0 (.slice none 0 0); have hcz26_1 := cz_ BK168 1 (.int .i64 0); have hfz26_0 := blk_frozen BK168.out 0; have hfz26_1 := blk_frozen BK168.out 1))
   refine bodyPost_ret (results_cell_row rfl _ _ gb168 24 #[.slice (some ⟨go7, 0, none⟩) t169.length co15, .int .i64 a0_1] (0, 0) _ rfl (bq_ BK168) Tryd.underlying24 rfl (by kernel_rfl)) rfl ?_
   exact ⟨_, er_, by (with_reducible repeat (first | apply Kd.R_alloc | apply Kd.R_drewN | apply Kd.R_drew)); exact Kd.R_mono (Kd.R_far (p := ⟨gb168, 1, none⟩) (Kd.R_far (p := ⟨gb168, 0, none⟩) (Kd.R_types HO171.out BK168.out (by decide)) (fun _ hk => hk.2) (.slice (some ⟨go7, 0, none⟩) t169.length co15)) (fun _ hk => hk.2) (.int .i64 a0_1)) (fun _ hk => trivial), pb_ HB⟩
  rw [if_neg c6] at H
  exact absurd H (by simp)
 rw [if_neg c5] at H
 exact absurd H (by simp)
end Go.Proofs.YtoabahlaicgmjaaDoor.X
end
