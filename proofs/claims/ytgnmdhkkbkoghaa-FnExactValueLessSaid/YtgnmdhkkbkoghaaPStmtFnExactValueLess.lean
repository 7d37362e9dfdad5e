/- The pure statement of the law FnExactValueLess. Written by a program of this session. -/
import Derived.Test.YtgnmdhkkbkoghaaPWf
import Derived.Test.YtgnmdhkkbkoghaaPxf6
namespace Go.Proofs.Ytgnmdhkkbkoghaa.P
open Go.RowKit Go.Proofs.YtgnmdhkkbkoghaaW.PrintWords Go.Proofs.YtgnmdhkkbkoghaaW.PrintLast Go.Proofs.YtgnmdhkkbkoghaaZ
def PureFnExactValueLess : Prop := ∀ (x0 : S25) (x1 : S25), wf25 x0 → wf25 x1 → ∃ k, laws_FnExactValueLess.f k x0.f0 x0.f1 x0.f2 x1.f0 x1.f1 x1.f2 = some true
end Go.Proofs.Ytgnmdhkkbkoghaa.P
