/- Project: the program's and the reference's are one. Condition: at most 2^20 values and places. -/
import Derived.Test.YtgnmdhkkbkoghaaPxf36
import Derived.Test.YtgnmdhkkbkoghaaPxf38
import Derived.Test.YtgnmdhkkbkoghaaPPlumbValue
set_option linter.unusedSimpArgs false
set_option linter.unusedVariables false
namespace Go.Proofs.Ytgnmdhkkbkoghaa.P
open Go.RowKit Go.Proofs.YtgnmdhkkbkoghaaW.PrintWords Go.Proofs.YtgnmdhkkbkoghaaW.PrintLast Go.Proofs.YtgnmdhkkbkoghaaZ
def pick1 (l : List iV) (v : Int) : List iV := if 0 ≤ v ∧ v < l.length then [rd_T28 l v] else []
def projV (l : List iV) (p : List Int) : List iV := p.flatMap (pick1 l)
theorem pick1_le (l : List iV) (v : Int) : (pick1 l v).length ≤ 1 := by unfold pick1; split <;> simp
theorem projV_le (l : List iV) : ∀ p : List Int, (projV l p).length ≤ p.length
  | [] => by simp [projV]
  | v :: p => by
    have := projV_le l p
    have h := pick1_le l v
    simp only [projV, List.flatMap_cons, List.length_append, List.length_cons] at this ⊢
    omega
theorem projV_take {l : List iV} {p : List Int} {i : Nat} (h : i < p.length) : projV l (p.take (i + 1)) = projV l (p.take i) ++ pick1 l p[i] := by
  rw [← List.take_append_getElem h]
  simp only [projV, List.flatMap_append, List.flatMap_cons, List.flatMap_nil, List.append_nil]
theorem rdI_at {p : List Int} {i : Nat} (h : i < p.length) : rd p (i : Int) = p[i] := rd_get (List.getElem?_eq_getElem h)
theorem spec_Project_ev (l : List iV) (p : List Int) (hl : l.length ≤ 1048576) (hp : p.length ≤ 1048576) : Ev (fun k => spec_Project.f k l p) (projV l p) := by
  simp only [spec_Project.f]
  refine (back (n := p.length) (Q := fun i => Ev (fun k => spec_Project.l0 k l p (projV l (p.take i)) (i : Int)) (projV l p)) ?_ (fun i hi ih => ?_) 0 (Nat.zero_le _))
  · refine Ev.shift ?_
    simp only [spec_Project.l0, Int.lt_irrefl, if_false, List.take_length]
    exact Ev.now _
  · have h0 : (0 : Int) ≤ (i : Int) := by omega
    have h1 : (i : Int) < (p.length : Int) := by omega
    have h2 := projV_le l (p.take i)
    rw [List.length_take] at h2
    have h3 : (projV l (p.take i)).length < 4398046511104 := by omega
    rw [projV_take hi] at ih
    refine Ev.shift ?_
    have hw : wrap64 ((l.length : Int) - 1) = l.length - 1 := w64 (by omega) (by omega)
    simp only [spec_Project.l0, spec_l1In.f, h0, h1, if_true, rdI_at hi, hw]
    by_cases c1 : p[i] ≥ 0
    · by_cases c2 : p[i] ≤ (l.length : Int) - 1
      · have c3 : p[i] < (l.length : Int) := by omega
        have c4 : (0 : Int) ≤ p[i] := c1
        simp only [c1, c2, c3, c4, h3, if_true, decide_true, Option.bind_some, succ64 hi (by omega)]
        rw [show pick1 l p[i] = [rd_T28 l p[i]] from if_pos ⟨c4, c3⟩] at ih
        exact ih
      · rw [show pick1 l p[i] = [] from if_neg (by omega), List.append_nil] at ih
        simp only [c1, c2, if_true, decide_false, Bool.false_eq_true, if_false, Option.bind_some, succ64 hi (by omega)]
        exact ih
    · rw [show pick1 l p[i] = [] from if_neg (by omega), List.append_nil] at ih
      simp only [c1, Bool.false_eq_true, if_false, Option.bind_some, succ64 hi (by omega)]
      exact ih
theorem impl_Project_ev (l : List iV) (p : List Int) (hl : l.length ≤ 1048576) (hp : p.length ≤ 1048576) : Ev (fun k => impl_Project.f k l p) (projV l p) := by
  simp only [impl_Project.f]
  refine (back (n := p.length) (Q := fun i => Ev (fun k => impl_Project.l0 k l (projV l (p.take i)) p (p.length : Int) (i : Int)) (projV l p)) ?_ (fun i hi ih => ?_) 0 (Nat.zero_le _))
  · refine Ev.shift ?_
    simp only [impl_Project.l0, Int.lt_irrefl, if_false, List.take_length]
    exact Ev.now _
  · have h0 : (0 : Int) ≤ (i : Int) := by omega
    have h1 : (i : Int) < (p.length : Int) := by omega
    have h2 := projV_le l (p.take i)
    rw [List.length_take] at h2
    have h3 : (projV l (p.take i)).length < 4398046511104 := by omega
    rw [projV_take hi] at ih
    refine Ev.shift ?_
    have hw : wrap64 ((l.length : Int) - 1) = l.length - 1 := w64 (by omega) (by omega)
    simp only [impl_Project.l0, impl_from.f, h0, h1, if_true, rdI_at hi, hw]
    by_cases c1 : p[i] ≥ 0
    · by_cases c2 : p[i] ≤ (l.length : Int) - 1
      · have c3 : p[i] < (l.length : Int) := by omega
        have c4 : (0 : Int) ≤ p[i] := c1
        simp only [c1, c2, c3, c4, h3, if_true, decide_true, Option.bind_some, succ64 hi (by omega)]
        rw [show pick1 l p[i] = [rd_T28 l p[i]] from if_pos ⟨c4, c3⟩] at ih
        exact ih
      · rw [show pick1 l p[i] = [] from if_neg (by omega), List.append_nil] at ih
        simp only [c1, c2, if_true, decide_false, Bool.false_eq_true, if_false, Option.bind_some, succ64 hi (by omega)]
        exact ih
    · rw [show pick1 l p[i] = [] from if_neg (by omega), List.append_nil] at ih
      simp only [c1, Bool.false_eq_true, if_false, Option.bind_some, succ64 hi (by omega)]
      exact ih
end Go.Proofs.Ytgnmdhkkbkoghaa.P
