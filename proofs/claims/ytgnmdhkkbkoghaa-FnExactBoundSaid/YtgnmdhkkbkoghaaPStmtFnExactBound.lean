/- The pure statement of the law FnExactBound. Written by a program of this session. -/
import Derived.Test.YtgnmdhkkbkoghaaPWf
import Derived.Test.YtgnmdhkkbkoghaaPxf3
namespace Go.Proofs.Ytgnmdhkkbkoghaa.P
open Go.RowKit Go.Proofs.YtgnmdhkkbkoghaaW.PrintWords Go.Proofs.YtgnmdhkkbkoghaaW.PrintLast Go.Proofs.YtgnmdhkkbkoghaaZ
def PureFnExactBound : Prop := ∀ (x0 : Int), (Lit.int .i64 x0).wf = true → laws_FnExactBound.f x0 = some true
end Go.Proofs.Ytgnmdhkkbkoghaa.P
