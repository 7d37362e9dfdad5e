/- The pure statement of the law FnExactColNameOk. Written by a program of this session. -/
import Derived.Test.YtgnmdhkkbkoghaaPWf
import Derived.Test.YtgnmdhkkbkoghaaPxf5
namespace Go.Proofs.Ytgnmdhkkbkoghaa.P
open Go.RowKit Go.Proofs.YtgnmdhkkbkoghaaW.PrintWords Go.Proofs.YtgnmdhkkbkoghaaW.PrintLast Go.Proofs.YtgnmdhkkbkoghaaZ
def PureFnExactColNameOk : Prop := ∀ (x0 : ByteArray), x0.size ≤ 9223372036854775807 → ∃ k, laws_FnExactColNameOk.f k x0 = some true
end Go.Proofs.Ytgnmdhkkbkoghaa.P
