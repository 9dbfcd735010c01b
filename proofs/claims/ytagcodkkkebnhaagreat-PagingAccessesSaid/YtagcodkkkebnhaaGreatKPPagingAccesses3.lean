/- A part of the proof: texts of the author, joined. -/
import Derived.Test.YtagcodkkkebnhaaGreatKPPagingAccesses2
section
set_option linter.unusedVariables false
set_option linter.unusedSimpArgs false
set_option linter.unnecessarySimpa false
open Go.Ev
namespace Go.Proofs.YtagcodkkkebnhaaGreat.Pure
open Go.Proofs.YtagcodkkkebnhaaGreat.K
set_option maxRecDepth 100000 in
theorem PagingAccesses (x0 : ((.pr (.pr (.sl (.pr (.int .i64) .str)) (.int .i64)) (.pr (.sl (.pr (.int .i64) (.pr .bool (.pr .bool (.pr (.int .i64) (.pr (.int .i64) (.pr .str (.pr (.int .i64) (.int .i64))))))))) (.pr (.sl (.int .i64)) (.pr (.int .i64) (.pr (.int .i64) (.int .i64)))))) : Ty).T) (x1 : ((.pr (.int .i64) (.pr (.int .i64) (.pr (.pr (.int .i64) (.int .i64)) (.pr (.int .i64) .str)))) : Ty).T) (h0 : ((.pr (.pr (.sl (.pr (.int .i64) .str)) (.int .i64)) (.pr (.sl (.pr (.int .i64) (.pr .bool (.pr .bool (.pr (.int .i64) (.pr (.int .i64) (.pr .str (.pr (.int .i64) (.int .i64))))))))) (.pr (.sl (.int .i64)) (.pr (.int .i64) (.pr (.int .i64) (.int .i64)))))) : Ty).wf x0) (h1 : ((.pr (.int .i64) (.pr (.int .i64) (.pr (.pr (.int .i64) (.int .i64)) (.pr (.int .i64) .str)))) : Ty).wf x1) : K.gF3.F (x0, x1) = some true :=
  accesses x0 x1.1 x1.2.1 x1.2.2.1.1 x1.2.2.1.2 x1.2.2.2.1 x1.2.2.2.2 (wf_fits h0.1.2) (wf_fits h1.2.2.1.1) (wf_fits h1.2.2.1.2) (wf_fits h1.2.2.2.1)
end Go.Proofs.YtagcodkkkebnhaaGreat.Pure
end
