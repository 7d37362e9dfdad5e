/- The laws' marks in lists of values: what they tell. -/
import Derived.Test.YtgnmdhkkbkoghaaPxf40
import Derived.Test.YtgnmdhkkbkoghaaPxf42
import Derived.Test.YtgnmdhkkbkoghaaPPlumbValue
import Derived.Test.YtgnmdhkkbkoghaaPPlumbMark
set_option linter.unusedSimpArgs false
set_option linter.unusedVariables false
namespace Go.Proofs.Ytgnmdhkkbkoghaa.P
open Go.RowKit Go.Proofs.YtgnmdhkkbkoghaaW.PrintWords Go.Proofs.YtgnmdhkkbkoghaaW.PrintLast Go.Proofs.YtgnmdhkkbkoghaaZ
def mkV (_ : iV) (m : Int) : iV := ⟨m, m + 1, mtext (m + 2)⟩
theorem rdV_set (l : List iV) (i : Nat) (a : iV) (h : i < l.length) : rd_T28 (l.set i a) (i : Int) = a := getD_get (by rw [List.getElem?_set_self h])
theorem markValueS_ev (l : List iV) (m : Int) (h0 : 0 ≤ m) (hl : l.length ≤ 1048576) (hm : m ≤ 4294967296) : Ev (fun k => laws_markValueS.f k l m) (m + 3 * l.length, mkl (fun _ => 3) mkV l m) := by
  have h := mark_ev (fun _ => 3) mkV (fun _ => by decide) 9223372036854775800 (g := fun k l m i => laws_markValueS.l0 k l m i) l.length ?_ ?_ l m rfl h0 (by rw [ctl_const]; omega)
  · rw [ctl_const] at h
    simp only [laws_markValueS.f]
    exact h
  · intro s t hs
    refine Ev.shift ?_
    simp only [laws_markValueS.l0, Int.lt_irrefl, if_false]
    exact Ev.now _
  · intro s t i x r hs hx hi h2 h3 h
    refine Ev.shift ?_
    have d1 : (i : Int) < (s.length : Int) := by omega
    have d2 : (0 : Int) ≤ (i : Int) := by omega
    have e1 : wrap64 (t + 1) = t + 1 := w64 (by omega) (by omega)
    have e2 : wrap64 (t + 1 + 1) = t + 2 := by rw [w64 (by omega) (by omega)]; omega
    have e3 : wrap64 (t + 2 + 1) = t + 3 := by rw [w64 (by omega) (by omega)]; omega
    simp only [laws_markValueS.l0, d1, d2, if_true, Option.bind_some, Int.toNat_natCast, succ64 hi (by omega), e1, e2, e3]
    refine Ev.bind (markText_ev (t + 2) (by omega) (by omega)) ?_
    simp only [rdV_set (s.set i ⟨t, (rd_T28 s (i : Int)).f1, (rd_T28 s (i : Int)).f2⟩) i _ (by rw [List.length_set]; exact hi), rdV_set _ i _ hi, List.set_set]
    exact h
theorem heldValueS_ev (l : List iV) (m : Int) (h0 : 0 ≤ m) (hl : l.length ≤ 1048576) (hm : m ≤ 4294967296) : Ev (fun k => laws_heldValueS.f k (mkl (fun _ => 3) mkV l m) m) (m + 3 * l.length) := by
  have h := held_ev (fun _ => 3) mkV (fun _ => by decide) 9223372036854775800 (g := fun k l m i => laws_heldValueS.l0 k l m i) l.length ?_ ?_ l m rfl h0 (by rw [ctl_const]; omega)
  · rw [ctl_const] at h
    simp only [laws_heldValueS.f]
    exact h
  · intro s t hs
    refine Ev.shift ?_
    simp only [laws_heldValueS.l0, Int.lt_irrefl, if_false]
    exact Ev.now _
  · intro s t i x r hs hx hi h2 h3 h
    refine Ev.shift ?_
    have d1 : (i : Int) < (s.length : Int) := by omega
    have d2 : (0 : Int) ≤ (i : Int) := by omega
    have e1 : wrap64 (t + 1) = t + 1 := w64 (by omega) (by omega)
    have e2 : wrap64 (t + 1 + 1) = t + 2 := by rw [w64 (by omega) (by omega)]; omega
    have e3 : wrap64 (t + 2 + 1) = t + 3 := by rw [w64 (by omega) (by omega)]; omega
    have d3 : rd_T28 s (i : Int) = mkV x t := getD_get hx
    have d4 : (mkV x t).f0 = t := rfl
    have d5 : (mkV x t).f1 = t + 1 := rfl
    have d6 : (mkV x t).f2 = mtext (t + 2) := rfl
    simp only [laws_heldValueS.l0, d1, d2, d3, d4, d5, d6, if_true, succ64 hi (by omega), e1, e2, e3]
    refine Ev.bind (markText_ev (t + 2) (by omega) (by omega)) ?_
    simp only [if_true]
    exact h
end Go.Proofs.Ytgnmdhkkbkoghaa.P
