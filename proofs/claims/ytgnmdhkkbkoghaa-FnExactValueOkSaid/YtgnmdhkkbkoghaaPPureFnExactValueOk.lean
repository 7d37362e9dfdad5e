/- The pure statement of the law FnExactValueOk is proved: no Go, no memory. Conditions: none. -/
import Derived.Test.YtgnmdhkkbkoghaaPStmtFnExactValueOk
import Derived.Test.YtgnmdhkkbkoghaaPPureValueOk
set_option linter.unusedSimpArgs false
set_option linter.unusedVariables false
namespace Go.Proofs.Ytgnmdhkkbkoghaa.P
open Go.RowKit Go.Proofs.YtgnmdhkkbkoghaaW.PrintWords Go.Proofs.YtgnmdhkkbkoghaaW.PrintLast Go.Proofs.YtgnmdhkkbkoghaaZ
theorem pureFnExactValueOk : PureFnExactValueOk := by
  intro x0 _
  simp only [laws_FnExactValueOk.f, laws_szValue.f, laws_toValue.f]
  by_cases h0 : wrap64 (1048576 - (x0.f2.size : Int)) < 0
  · simp [h0]
  · have e := spec_ValueOk_eq ⟨x0.f0, x0.f1, x0.f2⟩
    have e2 := impl_ValueOk_eq ⟨x0.f0, x0.f1, x0.f2⟩
    simp only at e e2
    simp only [h0, if_false, Option.bind_some, e, e2, bne_self_eq_false, Bool.false_eq_true]
end Go.Proofs.Ytgnmdhkkbkoghaa.P
