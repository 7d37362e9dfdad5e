/- The laws' own functions on lists of ints: what they tell. -/
import Derived.Test.YtgnmdhkkbkoghaaPxf37
import Derived.Test.YtgnmdhkkbkoghaaPxf39
import Derived.Test.YtgnmdhkkbkoghaaPxf41
import Derived.Test.YtgnmdhkkbkoghaaZPure
set_option linter.unusedSimpArgs false
set_option linter.unusedVariables false
namespace Go.Proofs.Ytgnmdhkkbkoghaa.P
open Go.RowKit Go.Proofs.YtgnmdhkkbkoghaaW.PrintWords Go.Proofs.YtgnmdhkkbkoghaaW.PrintLast Go.Proofs.YtgnmdhkkbkoghaaZ
theorem toIntS_ev (l : List Int) (hl : l.length ≤ 1048576) : Ev (fun k => laws_toIntS.f k l) l := by
  have c1 : (0 : Int) ≤ (l.length : Int) := by omega
  have c2 : l.length ≤ 35184372088832 := by omega
  simp only [laws_toIntS.f, c1, c2, if_true, Int.toNat_natCast]
  have h := fill_ev l id (0 : Int) (g := fun k s i => laws_toIntS.l0 k l s i) ?_ ?_
  · rw [List.map_id] at h
    exact h
  · intro s hs
    refine Ev.shift ?_
    simp only [laws_toIntS.l0, Int.lt_irrefl, if_false]
    exact Ev.now _
  · intro s i x r hx hs hi h
    refine Ev.shift ?_
    have d1 : (i : Int) < (l.length : Int) := by omega
    have d2 : (0 : Int) ≤ (i : Int) := by omega
    have d3 : (i : Int) < (s.length : Int) := by omega
    simp only [laws_toIntS.l0, d1, d2, d3, if_true, rd_get hx, Int.toNat_natCast, succ64 hi (by omega)]
    exact h
theorem eqIntS_ev (l : List Int) (hl : l.length ≤ 9223372036854775807) : Ev (fun k => laws_eqIntS.f k l l) true := by
  simp only [laws_eqIntS.f, if_true]
  refine look_ev l true (g := fun k i => laws_eqIntS.l0 k l l i) ?_ ?_
  · refine Ev.shift ?_
    simp only [laws_eqIntS.l0, Int.lt_irrefl, if_false]
    exact Ev.now _
  · intro i x hx hi h
    refine Ev.shift ?_
    have d1 : (i : Int) < (l.length : Int) := by omega
    have d2 : (0 : Int) ≤ (i : Int) := by omega
    simp only [laws_eqIntS.l0, d1, d2, if_true, succ64 hi hl]
    exact h
def mkInt (_ : Int) (m : Int) : Int := m
theorem markIntS_ev (l : List Int) (m : Int) (h0 : 0 ≤ m) (hm : m + l.length ≤ 9223372036854775807) : Ev (fun k => laws_markIntS.f k l m) (m + l.length, mkl (fun _ => 1) mkInt l m) := by
  have h := mark_ev (fun _ => 1) mkInt (fun _ => by decide) 9223372036854775807 (g := fun k l m i => laws_markIntS.l0 k l m i) l.length ?_ ?_ l m rfl h0 (by rw [ctl_const]; omega)
  · rw [ctl_const, Int.one_mul] at h
    simp only [laws_markIntS.f]
    exact h
  · intro s t hs
    refine Ev.shift ?_
    simp only [laws_markIntS.l0, Int.lt_irrefl, if_false]
    exact Ev.now _
  · intro s t i x r hs hx hi h2 h3 h
    refine Ev.shift ?_
    have d1 : (i : Int) < (s.length : Int) := by omega
    have d2 : (0 : Int) ≤ (i : Int) := by omega
    simp only [laws_markIntS.l0, d1, d2, if_true, Int.toNat_natCast, succ64 hi (by omega), w64 (n := t + 1) (by omega) (by omega)]
    exact h
end Go.Proofs.Ytgnmdhkkbkoghaa.P
