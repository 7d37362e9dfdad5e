/- The pure statement of the law FnExactValueText is proved: no Go, no memory. Conditions: none. -/
import Derived.Test.YtgnmdhkkbkoghaaPStmtFnExactValueText
import Derived.Test.YtgnmdhkkbkoghaaPPureValueText
set_option linter.unusedSimpArgs false
set_option linter.unusedVariables false
namespace Go.Proofs.Ytgnmdhkkbkoghaa.P
open Go.RowKit Go.Proofs.YtgnmdhkkbkoghaaW.PrintWords Go.Proofs.YtgnmdhkkbkoghaaW.PrintLast Go.Proofs.YtgnmdhkkbkoghaaZ
theorem pureFnExactValueText : PureFnExactValueText := by
  intro x0 _
  refine Ev.rounds ?_
  simp only [laws_FnExactValueText.f, laws_szValue.f, laws_toValue.f]
  by_cases h0 : wrap64 (1048576 - (x0.f2.size : Int)) < 0
  · simp [h0]; exact Ev.now _
  · simp only [h0, if_false, Option.bind_some]
    refine Ev.bind (spec_ValueText_ev ⟨x0.f0, x0.f1, x0.f2⟩) (Ev.bind (impl_ValueText_ev ⟨x0.f0, x0.f1, x0.f2⟩) ?_)
    simp only [if_true]
    exact Ev.now _
end Go.Proofs.Ytgnmdhkkbkoghaa.P
