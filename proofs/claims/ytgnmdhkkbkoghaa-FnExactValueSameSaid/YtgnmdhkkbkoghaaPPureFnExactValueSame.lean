/- The pure statement of the law FnExactValueSame is proved: no Go, no memory. Conditions: none. -/
import Derived.Test.YtgnmdhkkbkoghaaPStmtFnExactValueSame
import Derived.Test.YtgnmdhkkbkoghaaZPure
namespace Go.Proofs.Ytgnmdhkkbkoghaa.P
open Go.RowKit Go.Proofs.YtgnmdhkkbkoghaaW.PrintWords Go.Proofs.YtgnmdhkkbkoghaaW.PrintLast Go.Proofs.YtgnmdhkkbkoghaaZ
theorem pureFnExactValueSame : PureFnExactValueSame := by
  intro x0 x1 _ _
  simp only [laws_FnExactValueSame.f, laws_szValue.f, laws_toValue.f, spec_ValueSame.f, impl_ValueSame.f]
  by_cases h0 : wrap64 (1048576 - (x0.f2.size : Int)) < 0
  · simp [h0]
  · by_cases h1 : wrap64 (wrap64 (1048576 - (x0.f2.size : Int)) - (x1.f2.size : Int)) < 0
    · simp [h0, h1]
    · simp [h0, h1]
end Go.Proofs.Ytgnmdhkkbkoghaa.P
