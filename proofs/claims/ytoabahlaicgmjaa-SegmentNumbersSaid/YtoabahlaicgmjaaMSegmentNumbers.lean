/- Proved: the law SegmentNumbers of midrangelaw04, as_ given, for every argument that its type allows (slices and strings up to the largest int in length); no other condition. Written by xprint.py, a program of the author. -/
import Derived.Test.YtoabahlaicgmjaaRows
import Derived.WalkKit
import Derived.ProofKit
import Derived.OpenShut
import Derived.ShutString
import Derived.ChangeOld
import Derived.Below
import Derived.SizedLaws
import Derived.Test.YtoabahlaicgmjaaMSegmentNumbers8
namespace Go.Proofs.Ytoabahlaicgmjaa.segmentNumbers
open Go.ChangeShapes Go.WideShapes Go.ChangeAt Go.RowKit
open Go.ChangeMaps (open_string shut_string)
open Go.Proofs.Ytoabahlaicgmjaa.X Go.Proofs.Ytoabahlaicgmjaa.XW Go.Proofs.YtoabahlaicgmjaaW.PrintWords
set_option linter.unusedVariables false
theorem own : ownKnob Try.prog.godebug = none := by kernel_rfl
theorem laidOut : laidOutB Try.prog = true := by kernel_rfl
set_option maxRecDepth 100000 in
set_option maxHeartbeats 4000000 in
theorem lifted (os : Os) (started : os.Started) (H : Type) (enc : TypeId × Value → H) :
    ReturnsInHanded {} Try.checked os 9 .any (Rows.segmentNumbersSpec.pre6 enc Try.prog Try.f9 Rows.segmentNumbersRow.domain false) (Rows.segmentNumbersSpec.post enc Try.prog Try.f9 false true false false) := by
  refine returnsInHanded_of_change_sized (C := Try.checked) own started (by kernel_rfl) Try.func9
    (ChangeSpec.witness6 (enc := enc) (C := Try.checked) false ⟨#[], #[.agg #[.slice none 0 0, .int .i64 0], .slice none 0 0], []⟩ 8 (by kernel_rfl) (by kernel_rfl) (by kernel_rfl) (by kernel_rfl)) ?_
  intro W base args ds gs before hval0 hW hcnd hsz0 _
  have hval : ∀ (j : Nat) t v, Try.f9.params[j]? = some t → args[j]? = some v → Value.okWide Try.prog W .any base t v := hval0
  have hW' := hW
  obtain ⟨p, q, hA0, hV, rfl, hfz, hnd⟩ := hW
  have hA : DataW.TrodAll enc Try.prog W 0 (fun _ => true) true Try.f9.params.toList args.toList ds p := hA0
  rw [Try.params9] at hA hval
  obtain ⟨v0, vs0, d0, ds0, p0, q0, hargs, rfl, rfl, h0, r0⟩ := trodAll_cons hA
  obtain ⟨v1, vs1, d1, ds1, p1, q1, rfl, rfl, rfl, h1, r1⟩ := trodAll_cons r0
  obtain ⟨rfl, rfl, rfl⟩ := trodAll_nil r1
  obtain rfl : args = #[v0, v1] := by cases args; simp_all
  obtain ⟨rfl, rfl⟩ := trodVars_none hV
  have k0 := h0
  have lt0 : ∀ x ∈ p0, x.block < W.heap.size := by obtain ⟨m, hm⟩ := k0; exact DataW.trod_lt m _ _ _ hm
  obtain ⟨cs0, rfl, _⟩ := okWide_struct Try.underlying24 (hval 0 24 v0 rfl rfl)
  obtain ⟨fu0, hf0⟩ := h0
  obtain ⟨x0, hK0, ok0⟩ := rdx24 _ _ _ hf0
  obtain ⟨l0_0, a0_1⟩ := x0
  obtain ⟨ok0_0, ok0_1⟩ := ok0
  obtain ⟨_, _, e0, ⟨A0_0, c0_0, rfl, hl0_0, hC0_0⟩, rfl⟩ := hK0
  obtain rfl : cs0 = #[.slice A0_0 l0_0.length c0_0, .int .i64 a0_1] := by apply Array.ext'; exact e0
  have k1 := h1
  have lt1 : ∀ x ∈ p1, x.block < W.heap.size := by obtain ⟨m, hm⟩ := k1; exact DataW.trod_lt m _ _ _ hm
  obtain ⟨a_1, n_1, c_1, rfl⟩ := okWide_slice Try.underlying58 (hval 1 58 v1 rfl rfl)
  obtain ⟨fu1, hf1⟩ := h1
  obtain ⟨x1, hK1, ok1⟩ := (rdx_slice Try.underlying58 (by kernel_rfl) rdx66) _ _ _ hf1
  obtain ⟨A1, c1, e1, hl1, hC1⟩ := hK1
  obtain ⟨rfl, rfl, rfl⟩ : a_1 = A1 ∧ n_1 = x1.length ∧ c_1 = c1 := by have e := (List.cons.inj e1).1; injection e with e1 e2 e3; exact ⟨e1, e2, e3⟩
  have l1_ := rfl (a := x1)
  clear hA0 hval0 hsz0
  obtain ⟨k, hk⟩ := Pure.SegmentNumbers l0_0 a0_1 x1 ok0_0 ok0_1 ok1
  refine (X.midrangelaw04_SegmentNumbers.calls k _ _ l0_0 a0_1 _ _ x1 true W hC0_0 hl0_0 hC1 hl1 hk).mono fun e W' ⟨he, bel0⟩ => ?_
  have bel : Below W.heap.size W W' := bel0
  subst he
  exact ⟨_, rfl, _, _, _, [], _, [], hW', trodAll_mk1 (shut_bool Try.underlying4 _), (trodAll_cons_mk (Below.trod laidOut (by kernel_rfl) (of_decide_eq_true (by kernel_rfl)) k0 bel lt0) (trodAll_cons_mk (Below.trod laidOut (by kernel_rfl) (of_decide_eq_true (by kernel_rfl)) k1 bel lt1) trodAll_mk0)), rfl, bel.frame _, fun h => by cases h⟩
theorem over : Rows.segmentNumbersRow.holds Try.pinned (OpenSpec.ofChange Rows.segmentNumbersSpec) :=
  OpenClaim.holds_of_wide 9 Try.f9 rfl rfl rfl rfl rfl rfl rfl ⟨rfl, rfl, rfl, rfl, rfl⟩ rfl rfl rfl rfl rfl (by kernel_rfl) Try.func9 (by kernel_rfl)
    (of_decide_eq_true (by kernel_rfl)) (by unfold Func.isWrapper; first | (rw [if_pos (by decide +kernel)]; kernel_rfl) | (rw [if_neg (by decide +kernel)]; exact ⟨rfl, rfl⟩))
    (fun os started H enc _ => lifted os started H enc)
theorem proved : Rows.SegmentNumbersSaid := over
#print axioms proved
end Go.Proofs.Ytoabahlaicgmjaa.segmentNumbers
namespace Go.Proofs.Ytoabahlaicgmjaa
/-- The row, under a short name, for the claim. -/
theorem segmentNumbers_holds : Rows.SegmentNumbersSaid := segmentNumbers.proved
end Go.Proofs.Ytoabahlaicgmjaa
