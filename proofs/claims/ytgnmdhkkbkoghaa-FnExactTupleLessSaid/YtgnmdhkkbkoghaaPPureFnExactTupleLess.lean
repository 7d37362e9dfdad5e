/- The pure statement of the law FnExactTupleLess is proved: no Go, no memory. Conditions: none. -/
import Derived.Test.YtgnmdhkkbkoghaaPStmtFnExactTupleLess
import Derived.Test.YtgnmdhkkbkoghaaPPureTupleLess
set_option linter.unusedSimpArgs false
set_option linter.unusedVariables false
namespace Go.Proofs.Ytgnmdhkkbkoghaa.P
open Go.RowKit Go.Proofs.YtgnmdhkkbkoghaaW.PrintWords Go.Proofs.YtgnmdhkkbkoghaaW.PrintLast Go.Proofs.YtgnmdhkkbkoghaaZ
theorem pureFnExactTupleLess : PureFnExactTupleLess := by
  intro l l2 hl hl2
  refine Ev.rounds ?_
  simp only [laws_FnExactTupleLess.f]
  refine Ev.bind (szValueS_ev l hl 1048576 (by decide) (by decide)) ?_
  have hc := ctl_nonneg (fun x => show 0 ≤ wtV x by unfold wtV; omega) l
  have hc2 := ctl_nonneg (fun x => show 0 ≤ wtV x by unfold wtV; omega) l2
  by_cases h : (l.length : Int) + ctl wtV l ≤ 1048576
  · have hn : l.length ≤ 1048576 := by omega
    have hm : (l.map cV).length ≤ 9223372036854775807 := by rw [List.length_map]; omega
    rw [lf_pos h]
    have c : ¬ (1048576 - ((l.length : Int) + ctl wtV l) < 0) := by omega
    simp only [c, if_false]
    refine Ev.bind (szValueS_ev l2 hl2 (1048576 - ((l.length : Int) + ctl wtV l)) (by omega) (by omega)) ?_
    by_cases h2 : (l2.length : Int) + ctl wtV l2 ≤ 1048576 - ((l.length : Int) + ctl wtV l)
    · have hn2 : l2.length ≤ 1048576 := by omega
      have hm2 : (l2.map cV).length ≤ 9223372036854775807 := by rw [List.length_map]; omega
      rw [lf_pos h2]
      have c : ¬ (1048576 - ((l.length : Int) + ctl wtV l) - ((l2.length : Int) + ctl wtV l2) < 0) := by omega
      simp only [c, if_false]
      refine Ev.bind (toValueS_ev l hn) (Ev.bind (toValueS_ev l2 hn2) (Ev.bind (spec_TupleLess_ev _ _ hm) (Ev.bind (toValueS_ev l hn) (Ev.bind (toValueS_ev l2 hn2) (Ev.bind (impl_TupleLess_ev _ _ hm) ?_)))))
      simp only [bne_self_eq_false, Bool.false_eq_true, if_false]
      refine Ev.bind (toValueS_ev l hn) (Ev.bind (eqValueS_ev _ hm) ?_)
      simp only [if_true]
      refine Ev.bind (toValueS_ev l2 hn2) (Ev.bind (eqValueS_ev _ hm2) ?_)
      simp only [if_true]
      exact Ev.now _
    · rw [lf_neg h2]
      simp only [show (-1 : Int) < 0 by decide, if_true]
      exact Ev.now _
  · rw [lf_neg h]
    simp only [show (-1 : Int) < 0 by decide, if_true]
    exact Ev.now _
end Go.Proofs.Ytgnmdhkkbkoghaa.P
