/- The pure statement of the law FnExactValueLess is proved: no Go, no memory. Conditions: none. -/
import Derived.Test.YtgnmdhkkbkoghaaPStmtFnExactValueLess
import Derived.Test.YtgnmdhkkbkoghaaPPureValueLess
set_option linter.unusedSimpArgs false
set_option linter.unusedVariables false
namespace Go.Proofs.Ytgnmdhkkbkoghaa.P
open Go.RowKit Go.Proofs.YtgnmdhkkbkoghaaW.PrintWords Go.Proofs.YtgnmdhkkbkoghaaW.PrintLast Go.Proofs.YtgnmdhkkbkoghaaZ
theorem pureFnExactValueLess : PureFnExactValueLess := by
  intro x0 x1 _ _
  refine Ev.rounds ?_
  simp only [laws_FnExactValueLess.f, laws_szValue.f, laws_toValue.f]
  by_cases h0 : wrap64 (1048576 - (x0.f2.size : Int)) < 0
  · simp only [h0, if_true, Option.bind_some]; exact Ev.now _
  · by_cases h1 : wrap64 (wrap64 (1048576 - (x0.f2.size : Int)) - (x1.f2.size : Int)) < 0
    · simp [h0, h1]; exact Ev.now _
    · simp only [h0, h1, if_false, if_true, Option.bind_some, show (-1 : Int) < 0 by decide]
      have e := spec_ValueLess_eq ⟨x0.f0, x0.f1, x0.f2⟩ ⟨x1.f0, x1.f1, x1.f2⟩
      simp only at e
      simp only [e, Option.bind_some]
      refine Ev.bind (impl_ValueLess_ev ⟨x0.f0, x0.f1, x0.f2⟩ ⟨x1.f0, x1.f1, x1.f2⟩) ?_
      simp only [bne_self_eq_false, Bool.false_eq_true, if_false]
      exact Ev.now _
end Go.Proofs.Ytgnmdhkkbkoghaa.P
