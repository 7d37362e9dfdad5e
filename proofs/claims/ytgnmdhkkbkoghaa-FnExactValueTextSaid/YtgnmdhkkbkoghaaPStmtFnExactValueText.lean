/- The pure statement of the law FnExactValueText. Written by a program of this session. -/
import Derived.Test.YtgnmdhkkbkoghaaPWf
import Derived.Test.YtgnmdhkkbkoghaaPxf10
namespace Go.Proofs.Ytgnmdhkkbkoghaa.P
open Go.RowKit Go.Proofs.YtgnmdhkkbkoghaaW.PrintWords Go.Proofs.YtgnmdhkkbkoghaaW.PrintLast Go.Proofs.YtgnmdhkkbkoghaaZ
def PureFnExactValueText : Prop := ∀ (x0 : S25), wf25 x0 → ∃ k, laws_FnExactValueText.f k x0.f0 x0.f1 x0.f2 = some true
end Go.Proofs.Ytgnmdhkkbkoghaa.P
