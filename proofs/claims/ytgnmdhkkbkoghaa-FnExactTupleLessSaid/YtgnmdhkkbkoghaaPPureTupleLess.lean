/- Tuples in order: what the program's and the reference's tell is one comparison. Condition: lengths that Go's int can tell. -/
import Derived.Test.YtgnmdhkkbkoghaaPxf100000
import Derived.Test.YtgnmdhkkbkoghaaPxf28
import Derived.Test.YtgnmdhkkbkoghaaPxf30
import Derived.Test.YtgnmdhkkbkoghaaPPureValueLess
set_option linter.unusedSimpArgs false
set_option linter.unusedVariables false
namespace Go.Proofs.Ytgnmdhkkbkoghaa.P
open Go.RowKit Go.Proofs.YtgnmdhkkbkoghaaW.PrintWords Go.Proofs.YtgnmdhkkbkoghaaW.PrintLast Go.Proofs.YtgnmdhkkbkoghaaZ
def byT : List iV → List iV → Int
  | [], [] => 0
  | [], _ :: _ => -1
  | _ :: _, [] => 1
  | a :: x, b :: y => if byV a b = 0 then byT x y else byV a b
theorem drop_get {α : Type _} {l : List α} {i : Nat} (h : i < l.length) : l.drop i = l[i] :: l.drop (i + 1) := List.drop_eq_getElem_cons h
theorem rdV_get {l : List iV} {i : Nat} (h : i < l.length) : rd_T28 l (i : Int) = l[i] := getD_get (List.getElem?_eq_getElem h)
theorem impl_cmpT_ev (x y : List iV) (hx : x.length ≤ 9223372036854775807) : ∀ i : Nat, i ≤ x.length → Ev (fun k => impl_Value_56_55.l0 k x y x (x.length : Int) (i : Int)) (byT (x.drop i) (y.drop i)) := by
  refine back ?_ fun i hi ih => ?_
  · refine Ev.shift ?_
    simp only [impl_Value_56_55.l0, Int.lt_irrefl, if_false, List.drop_length]
    by_cases h : x.length < y.length
    · have h2 : (x.length : Int) < (y.length : Int) := by omega
      simp only [h2, if_true, drop_get h, byT]
      exact Ev.now _
    · have h2 : ¬ (x.length : Int) < (y.length : Int) := by omega
      rw [List.drop_eq_nil_of_le (by omega)]
      simp only [h2, if_false, byT]
      exact Ev.now _
  · have h0 : (0 : Int) ≤ (i : Int) := by omega
    have h1 : (i : Int) < (x.length : Int) := by omega
    refine Ev.shift ?_
    rw [drop_get hi]
    by_cases h : i < y.length
    · have h2 : (i : Int) < (y.length : Int) := by omega
      have h3 : ¬ (i : Int) ≥ (y.length : Int) := by omega
      simp only [impl_Value_56_55.l0, h0, h1, h2, h3, if_true, if_false, rdV_get hi, rdV_get h]
      refine Ev.bind (impl_byValue_ev x[i] y[i]) ?_
      rw [drop_get h]
      simp only [byT]
      by_cases h4 : byV x[i] y[i] = 0
      · simp only [h4, if_true, succ64 hi hx]
        exact ih
      · simp only [h4, if_false]
        exact Ev.now _
    · have h3 : (i : Int) ≥ (y.length : Int) := by omega
      rw [List.drop_eq_nil_of_le (show y.length ≤ i by omega)]
      simp only [impl_Value_56_55.l0, h0, h1, h3, if_true, byT]
      exact Ev.now _
theorem impl_TupleLess_ev (x y : List iV) (hx : x.length ≤ 9223372036854775807) : Ev (fun k => impl_TupleLess.f k x y) (decide (byT x y < 0)) := by
  simp only [impl_TupleLess.f, impl_Value_56_55.f]
  refine Ev.bind (impl_cmpT_ev x y hx 0 (Nat.zero_le _)) ?_
  exact Ev.now _
theorem spec_TupleLess_ev (x y : List iV) (hx : x.length ≤ 9223372036854775807) : Ev (fun k => spec_TupleLess.f k x y) (decide (byT x y < 0)) := by
  simp only [spec_TupleLess.f]
  refine back (n := x.length) (Q := fun i => Ev (fun k => spec_TupleLess.l0 k x y (i : Int)) (decide (byT (x.drop i) (y.drop i) < 0))) ?_ (fun i hi ih => ?_) 0 (Nat.zero_le _)
  · refine Ev.shift ?_
    simp only [spec_TupleLess.l0, Int.lt_irrefl, if_false, List.drop_length]
    refine Ev.shift ?_
    simp only [spec_TupleLess.j1, Bool.false_eq_true, if_false]
    refine Ev.val ?_
    by_cases h : x.length < y.length
    · have h2 : (x.length : Int) < (y.length : Int) := by omega
      rw [drop_get h]
      simp only [h2, byT]
      simp
    · have h2 : ¬ (x.length : Int) < (y.length : Int) := by omega
      rw [List.drop_eq_nil_of_le (by omega)]
      simp [h2, byT]
  · have h0 : (0 : Int) ≤ (i : Int) := by omega
    have h1 : (i : Int) < (x.length : Int) := by omega
    refine Ev.shift ?_
    rw [drop_get hi]
    simp only [spec_TupleLess.l0, h1, if_true]
    refine Ev.shift ?_
    by_cases h : i < y.length
    · have h2 : (i : Int) < (y.length : Int) := by omega
      rw [drop_get h]
      simp only [spec_TupleLess.j1, h0, h1, h2, decide_true, if_true, rdV_get hi, rdV_get h, spec_ValueSame_eq, spec_ValueLess_eq, Option.bind_some, byT]
      by_cases h4 : byV x[i] y[i] = 0
      · simp only [h4, beq_self_eq_true, if_true, succ64 hi hx]
        exact ih
      · simp only [h4, beq_iff_eq, if_false]
        exact Ev.now _
    · have h3 : ¬ (i : Int) < (y.length : Int) := by omega
      have h5 : ¬ (x.length : Int) < (y.length : Int) := by omega
      rw [List.drop_eq_nil_of_le (show y.length ≤ i by omega)]
      simp only [spec_TupleLess.j1, h3, h5, decide_false, Bool.false_eq_true, if_false, byT]
      exact Ev.val (by simp)
end Go.Proofs.Ytgnmdhkkbkoghaa.P
