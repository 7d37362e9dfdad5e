/- The pure statement of the law FnExactProject is proved: no Go, no memory. Conditions: none. -/
import Derived.Test.YtgnmdhkkbkoghaaPStmtFnExactProject
import Derived.Test.YtgnmdhkkbkoghaaPPureProject
import Derived.Test.YtgnmdhkkbkoghaaPPlumbInt
import Derived.Test.YtgnmdhkkbkoghaaPPlumbValueMark
set_option linter.unusedSimpArgs false
set_option linter.unusedVariables false
namespace Go.Proofs.Ytgnmdhkkbkoghaa.P
open Go.RowKit Go.Proofs.YtgnmdhkkbkoghaaW.PrintWords Go.Proofs.YtgnmdhkkbkoghaaW.PrintLast Go.Proofs.YtgnmdhkkbkoghaaZ
theorem pureFnExactProject : PureFnExactProject := by
  intro l p hl hpp
  refine Ev.rounds ?_
  simp only [laws_FnExactProject.f]
  by_cases hp' : (p.length : Int) > 1048576
  · simp only [hp', if_true]; exact Ev.now _
  have hp : p.length ≤ 1048576 := by omega
  have hp2 : p.length ≤ 9223372036854775807 := by omega
  simp only [hp', if_false]
  refine Ev.bind (szValueS_ev l hl 1048576 (by decide) (by decide)) ?_
  have hc := ctl_nonneg (fun x => show 0 ≤ wtV x by unfold wtV; omega) l
  by_cases h : (l.length : Int) + ctl wtV l ≤ 1048576
  · have hn : l.length ≤ 1048576 := by omega
    have hq : (l.map cV).length ≤ 1048576 := by rw [List.length_map]; omega
    have hm : (l.map cV).length ≤ 9223372036854775807 := by omega
    rw [lf_pos h]
    have c : ¬ (1048576 - ((l.length : Int) + ctl wtV l) < 0) := by omega
    simp only [c, if_false]
    have hr := projV_le (l.map cV) p
    have hre : Ev (fun k => laws_eqValueS.f k (projV (l.map cV) p) (projV (l.map cV) p)) true := eqValueS_ev _ (by omega)
    refine Ev.bind (toValueS_ev l hn) (Ev.bind (toIntS_ev p hp) (Ev.bind (spec_Project_ev _ p hq hp) (Ev.bind (toValueS_ev l hn) (Ev.bind (toIntS_ev p hp) (Ev.bind (impl_Project_ev _ p hq hp) (Ev.bind hre ?_))))))
    simp only [if_true]
    refine Ev.bind (toValueS_ev l hn) (Ev.bind (eqValueS_ev _ hm) ?_)
    simp only [if_true]
    refine Ev.bind (toIntS_ev p hp) (Ev.bind (eqIntS_ev p hp2) ?_)
    simp only [if_true]
    refine Ev.bind (markValueS_ev (l.map cV) 1 (by decide) hq (by decide)) (Ev.bind (markIntS_ev p (1 + 3 * ((l.map cV).length : Int)) (by omega) (by omega)) ?_)
    have c2 : ¬ (1 + 3 * ((l.map cV).length : Int) + (p.length : Int) < 0) := by omega
    simp only [c2, if_false]
    refine Ev.bind hre ?_
    refine Ev.shift ?_
    simp only [laws_FnExactProject.j0, Bool.not_true, Bool.false_eq_true, if_false]
    have hh := heldValueS_ev (projV (l.map cV) p) 1 (by decide) (by omega) (by decide)
    refine Ev.bind (markValueS_ev (projV (l.map cV) p) 1 (by decide) (by omega) (by decide)) (Ev.bind hh ?_)
    have c3 : ¬ (1 + 3 * ((projV (l.map cV) p).length : Int) < 0) := by omega
    simp only [c3, if_false, if_true]
    refine Ev.bind (toValueS_ev l hn) (Ev.bind (toIntS_ev p hp) (Ev.bind (impl_Project_ev _ p hq hp) (Ev.bind hre ?_)))
    simp only [if_true]
    refine Ev.bind hh ?_
    simp only [c3, if_false, if_true]
    exact Ev.now _
  · rw [lf_neg h]
    simp only [show (-1 : Int) < 0 by decide, if_true]
    exact Ev.now _
end Go.Proofs.Ytgnmdhkkbkoghaa.P
