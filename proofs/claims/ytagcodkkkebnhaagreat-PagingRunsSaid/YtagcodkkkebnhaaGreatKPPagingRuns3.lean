/- A part of the proof: texts of the author, joined. -/
import Derived.Test.YtagcodkkkebnhaaGreatKPPagingRuns2
section
set_option linter.unusedVariables false
set_option linter.unusedSimpArgs false
set_option linter.unnecessarySimpa false
open Go.Ev
namespace Go.Proofs.YtagcodkkkebnhaaGreat.Pure
open Go.Proofs.YtagcodkkkebnhaaGreat.K
set_option maxRecDepth 100000 in
theorem PagingRuns (x0 : ((.pr (.pr (.sl (.pr (.int .i64) .str)) (.int .i64)) (.pr (.sl (.pr (.int .i64) (.pr .bool (.pr .bool (.pr (.int .i64) (.pr (.int .i64) (.pr .str (.pr (.int .i64) (.int .i64))))))))) (.pr (.sl (.int .i64)) (.pr (.int .i64) (.pr (.int .i64) (.int .i64)))))) : Ty).T) (x1 : ((.sl (.pr (.int .i64) (.pr (.int .i64) (.pr (.pr (.int .i64) (.int .i64)) (.pr (.int .i64) .str))))) : Ty).T) (h0 : ((.pr (.pr (.sl (.pr (.int .i64) .str)) (.int .i64)) (.pr (.sl (.pr (.int .i64) (.pr .bool (.pr .bool (.pr (.int .i64) (.pr (.int .i64) (.pr .str (.pr (.int .i64) (.int .i64))))))))) (.pr (.sl (.int .i64)) (.pr (.int .i64) (.pr (.int .i64) (.int .i64)))))) : Ty).wf x0) (h1 : ((.sl (.pr (.int .i64) (.pr (.int .i64) (.pr (.pr (.int .i64) (.int .i64)) (.pr (.int .i64) .str))))) : Ty).wf x1) : K.gF4.F (x0, x1) = some true :=
  runs x0 x1 (wf_fits h0.1.2) (fun a ha => ⟨wf_fits (h1.2 a ha).2.2.1.1, wf_fits (h1.2 a ha).2.2.1.2, wf_fits (h1.2 a ha).2.2.2.1⟩)
end Go.Proofs.YtagcodkkkebnhaaGreat.Pure
end
