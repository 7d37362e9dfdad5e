/- The pure statement of the law FnExactValueOk. Written by a program of this session. -/
import Derived.Test.YtgnmdhkkbkoghaaPWf
import Derived.Test.YtgnmdhkkbkoghaaPxf7
namespace Go.Proofs.Ytgnmdhkkbkoghaa.P
open Go.RowKit Go.Proofs.YtgnmdhkkbkoghaaW.PrintWords Go.Proofs.YtgnmdhkkbkoghaaW.PrintLast Go.Proofs.YtgnmdhkkbkoghaaZ
def PureFnExactValueOk : Prop := ∀ (x0 : S25), wf25 x0 → laws_FnExactValueOk.f x0.f0 x0.f1 x0.f2 = some true
end Go.Proofs.Ytgnmdhkkbkoghaa.P
