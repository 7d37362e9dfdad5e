/- The pure statement of the law FnExactProject. Written by a program of this session. -/
import Derived.Test.YtgnmdhkkbkoghaaPWf
import Derived.Test.YtgnmdhkkbkoghaaPxf11
namespace Go.Proofs.Ytgnmdhkkbkoghaa.P
open Go.RowKit Go.Proofs.YtgnmdhkkbkoghaaW.PrintWords Go.Proofs.YtgnmdhkkbkoghaaW.PrintLast Go.Proofs.YtgnmdhkkbkoghaaZ
def PureFnExactProject : Prop := ∀ (x0 : List (S25)) (x1 : List Int), (x0.length ≤ 9223372036854775807 ∧ ∀ y ∈ x0, wf25 y) → (x1.length ≤ 9223372036854775807 ∧ ∀ y ∈ x1, (Lit.int .i64 y).wf = true) → ∃ k, laws_FnExactProject.f k x0 x1 = some true
end Go.Proofs.Ytgnmdhkkbkoghaa.P
