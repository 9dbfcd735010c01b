import Derived.Test.YtoabahlaicgmjaaQ1
import Derived.Test.YtoabahlaicgmjaaQ2
import Derived.Test.YtoabahlaicgmjaaQ3
import Derived.Test.YtoabahlaicgmjaaXx0
import Derived.Test.YtoabahlaicgmjaaXx27
namespace Go.Proofs.Ytoabahlaicgmjaa.Pure
open Go.RowKit Go.Proofs.Ytoabahlaicgmjaa.X Go.Proofs.Ytoabahlaicgmjaa.Q Go.Proofs.YtoabahlaicgmjaaW.PrintWords Go.Proofs.YtoabahlaicgmjaaW.PrintLast
set_option linter.unusedVariables false

theorem SegmentCreates : midrangelaw04_SegmentCreates.Pure := by
  intro l nx p n hl hx hp hn
  refine ⟨400, ?_⟩
  unfold midrangelaw04_SegmentCreates.f
  rw [awake_eq 400 (by omega), Option.bind_some, if_pos rfl]
  obtain ⟨b, hb, hs⟩ := few_eq l nx 400 (by omega)
  rw [hb, Option.bind_some]
  cases b with
  | false => rfl
  | true =>
    obtain ⟨h12, _⟩ := hs rfl
    obtain ⟨l', nx', e, hl', h1, h2⟩ := destroyed_both l nx n 400 (by omega) (wf64 hn)
    have hc := created_len l nx p
    rw [if_pos rfl, own_eq l nx (by omega), Option.bind_some, created_eq l nx p 400 (by omega), Option.bind_some, Option.bind_some, h1, Option.bind_some, Created_eq l nx p 400 (by omega), Option.bind_some, is_eq _ _ _ _ _ (by omega) 400 (by omega), Option.bind_some, if_pos rfl, if_pos rfl, h2, Option.bind_some, is_eq _ _ _ _ _ (by show l'.length ≤ 100; omega) 400 (by omega)]
    rfl
end Go.Proofs.Ytoabahlaicgmjaa.Pure
