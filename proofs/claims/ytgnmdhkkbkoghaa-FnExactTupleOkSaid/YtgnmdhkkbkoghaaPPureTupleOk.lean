/- TupleOk: the program's and the reference's are one. Condition: a length that Go's int can tell. -/
import Derived.Test.YtgnmdhkkbkoghaaPxf100002
import Derived.Test.YtgnmdhkkbkoghaaPxf32
import Derived.Test.YtgnmdhkkbkoghaaPxf33
import Derived.Test.YtgnmdhkkbkoghaaPPureValueOk
set_option linter.unusedSimpArgs false
set_option linter.unusedVariables false
namespace Go.Proofs.Ytgnmdhkkbkoghaa.P
open Go.RowKit Go.Proofs.YtgnmdhkkbkoghaaW.PrintWords Go.Proofs.YtgnmdhkkbkoghaaW.PrintLast Go.Proofs.YtgnmdhkkbkoghaaZ
theorem rdV_at {l : List iV} {i : Nat} (h : i < l.length) : rd_T28 l (i : Int) = l[i] := getD_get (List.getElem?_eq_getElem h)
theorem drop_at {α : Type _} {l : List α} {i : Nat} (h : i < l.length) : l.drop i = l[i] :: l.drop (i + 1) := List.drop_eq_getElem_cons h
def okT (x : List iV) : Bool := x.all okV && decide (x.length ≤ 4)
theorem spec_TupleOk_ev (x : List iV) (hx : x.length ≤ 9223372036854775807) : Ev (fun k => spec_TupleOk.f k x) (okT x) := by
  simp only [spec_TupleOk.f]
  refine (back (n := x.length) (Q := fun i => Ev (fun k => spec_TupleOk.l0 k x (i : Int)) ((x.drop i).all okV && decide (x.length ≤ 4))) ?_ (fun i hi ih => ?_) 0 (Nat.zero_le _))
  · refine Ev.shift ?_
    simp only [spec_TupleOk.l0, Int.lt_irrefl, if_false, List.drop_length, List.all_nil, Bool.true_and]
    exact Ev.val (by congr 1; simp; omega)
  · have h0 : (0 : Int) ≤ (i : Int) := by omega
    have h1 : (i : Int) < (x.length : Int) := by omega
    refine Ev.shift ?_
    rw [drop_at hi]
    simp only [spec_TupleOk.l0, h0, h1, if_true, rdV_at hi, spec_ValueOk_eq, Option.bind_some, List.all_cons]
    cases h : okV x[i]
    · simp only [Bool.false_eq_true, if_false, Bool.false_and]; exact Ev.now _
    · simp only [if_true, Bool.true_and, succ64 hi hx]; exact ih
theorem impl_TupleOk_ev (x : List iV) (hx : x.length ≤ 9223372036854775807) : Ev (fun k => impl_TupleOk.f k x) (okT x) := by
  simp only [impl_TupleOk.f, okT]
  by_cases hl : x.length ≤ 4
  · have hl2 : (x.length : Int) ≤ 4 := by omega
    simp only [hl, hl2, if_true, decide_true, Bool.and_true]
    have key : ∀ i : Nat, i ≤ x.length → ∃ r : Int, Ev (fun k => impl_Value_69_59.l0 k x (x.length : Int) (i : Int)) r ∧ decide (r ≥ 0) = !((x.drop i).all okV) := by
      refine back ⟨-1, ?_, by simp⟩ fun i hi ih => ?_
      · refine Ev.shift ?_
        simp only [impl_Value_69_59.l0, Int.lt_irrefl, if_false]
        exact Ev.now _
      · obtain ⟨r, h, e⟩ := ih
        have h0 : (0 : Int) ≤ (i : Int) := by omega
        have h1 : (i : Int) < (x.length : Int) := by omega
        cases h2 : okV x[i]
        · refine ⟨i, Ev.shift ?_, ?_⟩
          · simp only [impl_Value_69_59.l0, impl_TupleOk_1.f, h0, h1, if_true, rdV_at hi, impl_ValueOk_eq, Option.bind_some, h2, Bool.not_false]
            exact Ev.now _
          · rw [drop_at hi, List.all_cons, h2]; simp
        · refine ⟨r, Ev.shift ?_, ?_⟩
          · simp only [impl_Value_69_59.l0, impl_TupleOk_1.f, h0, h1, if_true, rdV_at hi, impl_ValueOk_eq, Option.bind_some, h2, Bool.not_true, Bool.false_eq_true, if_false, succ64 hi hx]
            exact h
          · rw [drop_at hi, List.all_cons, h2, e]; simp
    obtain ⟨r, h, e⟩ := key 0 (Nat.zero_le _)
    simp only [List.drop_zero] at e
    simp only [impl_Value_58_59.f, impl_Value_69_59.f]
    refine Ev.bind (Ev.bind h (Ev.now _)) ?_
    rw [e, Bool.not_not]
    exact Ev.now _
  · have hl2 : ¬ (x.length : Int) ≤ 4 := by omega
    simp only [hl, hl2, if_false, decide_false, Bool.and_false]
    exact Ev.now _
end Go.Proofs.Ytgnmdhkkbkoghaa.P
