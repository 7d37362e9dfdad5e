/- The pure statement of the law FnExactTupleLess. Written by a program of this session. -/
import Derived.Test.YtgnmdhkkbkoghaaPWf
import Derived.Test.YtgnmdhkkbkoghaaPxf8
namespace Go.Proofs.Ytgnmdhkkbkoghaa.P
open Go.RowKit Go.Proofs.YtgnmdhkkbkoghaaW.PrintWords Go.Proofs.YtgnmdhkkbkoghaaW.PrintLast Go.Proofs.YtgnmdhkkbkoghaaZ
def PureFnExactTupleLess : Prop := ∀ (x0 : List (S25)) (x1 : List (S25)), (x0.length ≤ 9223372036854775807 ∧ ∀ y ∈ x0, wf25 y) → (x1.length ≤ 9223372036854775807 ∧ ∀ y ∈ x1, wf25 y) → ∃ k, laws_FnExactTupleLess.f k x0 x1 = some true
end Go.Proofs.Ytgnmdhkkbkoghaa.P
