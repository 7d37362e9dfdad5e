/- The pure statement of the law FnExactTupleText. Written by a program of this session. -/
import Derived.Test.YtgnmdhkkbkoghaaPWf
import Derived.Test.YtgnmdhkkbkoghaaPxf13
namespace Go.Proofs.Ytgnmdhkkbkoghaa.P
open Go.RowKit Go.Proofs.YtgnmdhkkbkoghaaW.PrintWords Go.Proofs.YtgnmdhkkbkoghaaW.PrintLast Go.Proofs.YtgnmdhkkbkoghaaZ
def PureFnExactTupleText : Prop := ∀ (x0 : List (S25)), (x0.length ≤ 9223372036854775807 ∧ ∀ y ∈ x0, wf25 y) → ∃ k, laws_FnExactTupleText.f k x0 = some true
end Go.Proofs.Ytgnmdhkkbkoghaa.P
