-- Written by xprint.py, a program of this claim's author (wip/xprint.py).
import Derived.Test.YtoabahlaicgmjaaXx0
namespace Go.Proofs.Ytoabahlaicgmjaa.X
open Go.Proofs.Ytoabahlaicgmjaa.XW
open Go.RowKit Go.Proofs.YtoabahlaicgmjaaW.PrintWords Go.Proofs.YtoabahlaicgmjaaW.PrintLast Go.Proofs.YtoabahlaicgmjaaW.PrintMore
attribute [local go_sem] max2_int min2_int max_two min_two max_three min_three max_four min_four   -- for this text's walks alone
set_option linter.unusedVariables false
set_option linter.unusedSimpArgs false

/-! ### api_Segment_41: function 41 -/
def api_Segment_41.f (l0 : List (S56)) (a1 : Int) (a2 : Int) : Option (List (S56)) := if a2 = a1 + 1 then (if 0 ≤ a1 then (if a1 < (l0.length : Int) then (some (l0.eraseIdx a1.toNat)) else (none)) else (none)) else (none)
set_option maxHeartbeats 8000000 in
set_option maxRecDepth 100000 in
theorem api_Segment_41.calls (P0_ : Nat → Prop) (u9000_ : Value) (l0 : List (S56)) (a1 : Int) (a2 : Int) (r : List (S56)) (w0 w : World) (hB : Below w0.heap.size w0 w) (ho0 : Kd.R k56 56 w w0.heap.size P0_ u9000_ l0) (h : api_Segment_41.f l0 a1 a2 = some r) :
    Calls Try.prog 41 #[u9000_, .int .i64 a1, .int .i64 a2] w fun e w' => ∃ v0_ : Value, e = .returned (v0_) ∧ Kd.R k56 56 w' w0.heap.size (fun k_ => (P0_ k_ ∨ w.heap.size ≤ k_)) v0_ r ∧ Below w0.heap.size w0 w' ∧ Kept w w' (fun k_ => P0_ k_) := by
  unfold api_Segment_41.f at h
  by_cases c1 : a2 = a1 + 1
  case neg => rw [if_neg c1] at h; exact absurd h (by simp)
  rw [if_pos c1] at h
  by_cases c2 : 0 ≤ a1
  case neg => rw [if_neg c2] at h; exact absurd h (by simp)
  rw [if_pos c2] at h
  by_cases c3 : a1 < (l0.length : Int)
  case neg => rw [if_neg c3] at h; exact absurd h (by simp)
  rw [if_pos c3] at h
  obtain rfl := Option.some.inj h
  clear h
  obtain ⟨k, rfl⟩ : ∃ k : Nat, a1 = (k : Int) := ⟨a1.toNat, by omega⟩
  obtain rfl : a2 = ((k + 1 : Nat) : Int) := by omega
  clear c1 c2
  have hk : k < l0.length := by omega
  clear c3
  obtain ⟨m, hm⟩ : ∃ m, l0.length = m + 1 := ⟨l0.length - 1, by omega⟩
  obtain ⟨g, cap, rfl, hg1, hg2, _⟩ := Kd.R_form ho0 (by omega)
  rw [hm] at ho0 hk ⊢
  have hcap := (Kd.R_reads' ho0).2.1
  have hcm : cap ≤ 9223372036854775807 := by
    obtain ⟨inner, hown⟩ := Kd.R_own ho0
    rcases hown.2 with ⟨hv', _⟩ | ⟨g', cap', cur, hv', hb, hh, hle, hcm, hcs, htake⟩
    · cases hv'
    injection hv' with _ _ hc
    subst hc
    exact hcm
  obtain ⟨i0, hi, hsz⟩ : ∃ i0, Try.prog.info? 56 = some i0 ∧ i0.size = k56.sz := Option.map_eq_some_iff.1 (by kernel_rfl)
  have hA : (if cap = k + 1 then some (⟨g, 0, none⟩ : Addr) else some ⟨g, (k + 1) * 2, none⟩) = if cap = k + 1 then some (⟨g, 0, none⟩ : Addr) else (some (⟨g, 0, none⟩ : Addr)).map (·.add ((k + 1) * k56.sz)) := by
    rw [Option.map_some, add_plain]
    rfl
  obtain ⟨w1, hr1, hR1, hG1⟩ := Kd.R_delete_run (P := Try.prog) k56 w0.heap.size 22 22 56 i0 Try.underlying22 hi hsz (W := w.drew) (show Kd.R k56 56 w.drew w0.heap.size P0_ _ l0 from ho0) hk hA (cap - (k + 1))
  rw [Nat.add_sub_cancel, Nat.add_sub_add_right] at hr1
  rw [Nat.add_sub_cancel] at hR1
  obtain ⟨w2, hr2, hR2, hG2⟩ := R_clear_run (P := Try.prog) k56 w0.heap.size 22 0 56 (.agg #[(.int .i64 0), (.string ⟨#[]⟩)]) Try.underlying22 (fun w => by kernel_rfl) (by rfl) (by decide) hR1 (by omega) (cap - m)
  have HR2 := Aside0.mk hR2
  replace hr2 : (Builtin.clear_ #[22] 0 #[.slice (some ⟨g, m * 2, none⟩) 1 (cap - m)]).run Try.prog w1 = .ok (.tuple #[]) w2 := hr2
  have HG := Aside0.mk (show Kept w w2 (fun k_ => P0_ k_) from Kept.of_grown hG2 (Kept.of_grown hG1 (Kept.drew (Kept.refl w _)) (fun k e => .inl (hR1.1 k (by rw [← e]; simp [Value.ownBlock])))) (fun k e => .inl (hR1.1 k (by rw [← e]; simp [Value.ownBlock]))))
  have HBW := Aside0.mk (show Below w0.heap.size w0 w2 from ((below_drew hB).grown hG1 (by exact hB.size) (fun k e => by injection e with e; omega)).grown hG2 (by have := hG1.size; have := hB.size; exact Nat.le_trans hB.size hG1.size) (fun k e => by injection e with e; omega))
  have HE := Aside0.mk hm
  clear hR1 hR2 hG1 hG2 ho0 hB hi hsz hm hA hg1 hg2 hcm
  have hkc : k ≤ cap := by omega
  have hp1 : (0 : Int) ≤ (k : Int) + 1 := by omega
  have hkm0 : k ≤ m := by omega
  have hkm : k + 1 ≤ m + 1 := by omega
  have hmc : m ≤ cap := by omega
  have hmc1 : m + 1 ≤ cap := by omega
  have hkc1 : k + 1 ≤ cap := by omega
  go_enter Try.func41, Try.ntmps41
  go_wp2_with fail
  go_region_law (refine step_append_run rfl (.tmp 22) (.tmp 25) 22 rfl (by simp [Act.eval, Act.put]) (by simp [Act.eval, Act.put]) hr1 ?_)
  go_wp2_with ((with_reducible refine gate_builtin (b := .clear) (xs := #[.tmp 31]) rfl ?_); refine list_clear_run rfl (.tmp 31) 22 rfl (by simp [Act.eval]) hr2 ?_)
  all_goals
    go_ret
    have HR3 := Kd.R_mono (ok' := fun k_ => (P0_ k_ ∨ w.heap.size ≤ k_)) HR2.out (fun k hk => .inl hk)
    first
    | exact ⟨_, rfl, HR3, HBW.out, HG.out⟩
    | (rw [show cap = k + 1 by assumption] at HR3; exact ⟨_, rfl, HR3, HBW.out, HG.out⟩)

end Go.Proofs.Ytoabahlaicgmjaa.X
