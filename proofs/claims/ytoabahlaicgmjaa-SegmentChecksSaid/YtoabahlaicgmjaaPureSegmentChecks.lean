import Derived.Test.YtoabahlaicgmjaaQ1
import Derived.Test.YtoabahlaicgmjaaQ2
import Derived.Test.YtoabahlaicgmjaaXx0
import Derived.Test.YtoabahlaicgmjaaXx16
import Derived.Test.YtoabahlaicgmjaaXx28
import Derived.Test.YtoabahlaicgmjaaXx29
import Derived.Test.YtoabahlaicgmjaaXx30
namespace Go.Proofs.Ytoabahlaicgmjaa.Pure
open Go.RowKit Go.Proofs.Ytoabahlaicgmjaa.X Go.Proofs.Ytoabahlaicgmjaa.Q Go.Proofs.YtoabahlaicgmjaaW.PrintWords Go.Proofs.YtoabahlaicgmjaaW.PrintLast
set_option linter.unusedVariables false

def pagesFrom (l : List S56) : Nat → Nat → Int → Int
  | 0, _, a => a
  | d + 1, i, a => pagesFrom l d (i + 1) (wrap64 (a + wrap64 (((rd_T56 l i).f1.size : Int) / 32)))
theorem pc_loop (l : List S56) (hl : l.length ≤ 12) (d : Nat) : ∀ (i k : Nat) (a : Int), i + d = l.length → d + 1 ≤ k → segment_PageCount.l0 k a l (l.length : Int) (i : Int) = some (pagesFrom l d i a, 0) := by
  induction d with
  | zero =>
    intro i k a hi hk
    obtain ⟨k, rfl⟩ : ∃ q, k = q + 1 := ⟨k - 1, by omega⟩
    rw [segment_PageCount.l0, if_neg (by omega)]
    rfl
  | succ d ih =>
    intro i k a hi hk
    obtain ⟨k, rfl⟩ : ∃ q, k = q + 1 := ⟨k - 1, by omega⟩
    have e1 : wrap64 ((i : Int) + 1) = ((i + 1 : Nat) : Int) := by rw [w64 (by omega) (by omega)]; omega
    rw [segment_PageCount.l0, if_pos (by omega), if_pos (by omega), if_pos (by omega), e1]
    exact ih (i + 1) k _ (by omega) (by omega)
theorem rpc_loop (l : List S56) (nx : Int) (hl : l.length ≤ 12) (d : Nat) : ∀ (i k : Nat) (a : Int), i + d = l.length → d + 1 ≤ k → midrangeref04_PageCount.l0 k a (i : Int) l nx = some (pagesFrom l d i a) := by
  induction d with
  | zero =>
    intro i k a hi hk
    obtain ⟨k, rfl⟩ : ∃ q, k = q + 1 := ⟨k - 1, by omega⟩
    rw [midrangeref04_PageCount.l0, if_neg (by omega)]
    rfl
  | succ d ih =>
    intro i k a hi hk
    obtain ⟨k, rfl⟩ : ∃ q, k = q + 1 := ⟨k - 1, by omega⟩
    have e1 : wrap64 ((i : Int) + 1) = ((i + 1 : Nat) : Int) := by rw [w64 (by omega) (by omega)]; omega
    rw [midrangeref04_PageCount.l0, if_pos (by omega), if_pos (by omega), midrangeref04_Pages.f, Option.bind_some, e1]
    exact ih (i + 1) k _ (by omega) (by omega)
theorem SegmentChecks : midrangelaw04_SegmentChecks.Pure := by
  intro l nx hl hx
  refine ⟨400, ?_⟩
  unfold midrangelaw04_SegmentChecks.f
  rw [awake_eq 400 (by omega), Option.bind_some, if_pos rfl]
  obtain ⟨b, hb, hs⟩ := few_eq l nx 400 (by omega)
  rw [hb, Option.bind_some]
  cases b with
  | false => rfl
  | true =>
    obtain ⟨h12, _⟩ := hs rfl
    rw [if_pos rfl, own_eq l nx (by omega), Option.bind_some, check_eq l nx 400 (by omega), Option.bind_some, Option.bind_some, Check_eq l nx 400 (by omega)]
    unfold segment_PageCount.f
    rw [check_eq l nx 400 (by omega), Option.bind_some]
    by_cases h : (chk l nx).2 = 0
    · obtain ⟨_, h1⟩ := right_of l nx h
      have p1 : segment_PageCount.l0 400 0 l (l.length : Int) 0 = some (pagesFrom l l.length 0 0, 0) := pc_loop l h12 l.length 0 400 0 (by omega) (by omega)
      have p2 : midrangeref04_PageCount.f 400 l nx = some (pagesFrom l l.length 0 0) := rpc_loop l nx h12 l.length 0 400 0 (by omega) (by omega)
      rw [if_pos h, p1, Option.bind_some, Option.bind_some, if_pos h, if_pos h, if_pos h1, if_pos rfl, p2]
      simp
    · rw [if_neg h, Option.bind_some, Option.bind_some, if_neg h, if_pos rfl, if_pos rfl, if_pos rfl]
      rfl
end Go.Proofs.Ytoabahlaicgmjaa.Pure
