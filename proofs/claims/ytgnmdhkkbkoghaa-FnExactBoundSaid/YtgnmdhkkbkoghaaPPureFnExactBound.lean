/- The pure statement of the law FnExactBound is proved: no Go, no memory. Conditions: none. -/
import Derived.Test.YtgnmdhkkbkoghaaPStmtFnExactBound
namespace Go.Proofs.Ytgnmdhkkbkoghaa.P
open Go.RowKit Go.Proofs.YtgnmdhkkbkoghaaW.PrintWords Go.Proofs.YtgnmdhkkbkoghaaW.PrintLast Go.Proofs.YtgnmdhkkbkoghaaZ
theorem pureFnExactBound : PureFnExactBound := by
  intro x0 _
  simp [laws_FnExactBound.f, spec_Bound.f, impl_Bound.f]
end Go.Proofs.Ytgnmdhkkbkoghaa.P
