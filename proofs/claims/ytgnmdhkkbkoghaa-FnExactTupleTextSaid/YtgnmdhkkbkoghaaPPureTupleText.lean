/- The text of a tuple: the program's and the reference's are one. Condition: the tuple has at most 2^20 values. -/
import Derived.Test.YtgnmdhkkbkoghaaPxf48
import Derived.Test.YtgnmdhkkbkoghaaPxf49
import Derived.Test.YtgnmdhkkbkoghaaPPureValueText
import Derived.Test.YtgnmdhkkbkoghaaPPureJoin
set_option linter.unusedSimpArgs false
set_option linter.unusedVariables false
namespace Go.Proofs.Ytgnmdhkkbkoghaa.P
open Go.RowKit Go.Proofs.YtgnmdhkkbkoghaaW.PrintWords Go.Proofs.YtgnmdhkkbkoghaaW.PrintLast Go.Proofs.YtgnmdhkkbkoghaaZ
def comma : ByteArray := ⟨#[44]⟩
def ttext (l : List iV) : ByteArray := jn comma (l.map vtext)
theorem ttext_size (l : List iV) : (ttext l).size ≤ 101 * l.length := by
  have := jn_size comma 100 (l.map vtext) (by intro x hx; obtain ⟨a, _, rfl⟩ := List.mem_map.mp hx; exact vtext_size a)
  rw [List.length_map] at this
  exact this
theorem rdV_tt {l : List iV} {i : Nat} (h : i < l.length) : rd_T28 l (i : Int) = l[i] := getD_get (List.getElem?_eq_getElem h)
theorem ttext_take {l : List iV} {i : Nat} (h : i < l.length) : ttext (l.take (i + 1)) = if i > 0 then ttext (l.take i) ++ comma ++ vtext l[i] else ttext (l.take i) ++ vtext l[i] := by
  rw [take_one h]
  unfold ttext
  rw [List.map_append, List.map_cons, List.map_nil]
  split
  · rename_i hi
    refine jn_snoc' _ _ _ ?_
    intro e
    have e2 : (List.map vtext (List.take i l)).length = 0 := by rw [e]; rfl
    rw [List.length_map, List.length_take] at e2
    omega
  · have : i = 0 := by omega
    subst this
    simp only [List.take_zero, List.map_nil, List.nil_append, jn_one, jn_nil]
    exact ByteArray.empty_append.symm
theorem spec_TupleText_ev (l : List iV) (hl : l.length ≤ 1048576) : Ev (fun k => spec_TupleText.f k l) (ttext l) := by
  simp only [spec_TupleText.f]
  refine (back (n := l.length) (Q := fun i => Ev (fun k => spec_TupleText.l0 k l (ttext (l.take i)) (i : Int)) (ttext l)) ?_ (fun i hi ih => ?_) 0 (Nat.zero_le _))
  · refine Ev.shift ?_
    simp only [spec_TupleText.l0, Int.lt_irrefl, if_false, List.take_length]
    exact Ev.now _
  · have h0 : (0 : Int) ≤ (i : Int) := by omega
    have h1 : (i : Int) < (l.length : Int) := by omega
    have hs := ttext_size (l.take i)
    have hv := vtext_size l[i]
    rw [List.length_take] at hs
    refine Ev.shift ?_
    have e := ttext_take hi
    by_cases h2 : i > 0
    · have h3 : (i : Int) > 0 := by omega
      have h4 : (ttext (l.take i)).size + 1 ≤ 9223372036854775807 := by omega
      have h5 : (ttext (l.take i) ++ (⟨#[44]⟩ : ByteArray)).size + (vtext l[i]).size ≤ 9223372036854775807 := by rw [ByteArray.size_append]; show _ + 1 + _ ≤ _; omega
      rw [if_pos h2] at e
      rw [e] at ih
      simp only [spec_TupleText.l0, h1, h3, h4, h0, if_true, rdV_tt hi]
      refine Ev.bind (spec_ValueText_ev l[i]) ?_
      simp only [h5, if_true, succ64 hi (by omega)]
      exact ih
    · have h3 : ¬ (i : Int) > 0 := by omega
      have h5 : (ttext (l.take i)).size + (vtext l[i]).size ≤ 9223372036854775807 := by omega
      rw [if_neg h2] at e
      rw [e] at ih
      simp only [spec_TupleText.l0, h1, h3, h0, if_true, if_false, rdV_tt hi]
      refine Ev.bind (spec_ValueText_ev l[i]) ?_
      simp only [h5, if_true, succ64 hi (by omega)]
      exact ih
theorem impl_TupleText_ev (l : List iV) (hl : l.length ≤ 1048576) : Ev (fun k => impl_TupleText.f k l) (ttext l) := by
  simp only [impl_TupleText.f]
  refine (back (n := l.length) (Q := fun i => Ev (fun k => impl_TupleText.l0 k ((l.take i).map vtext) l (l.length : Int) (i : Int)) (ttext l)) ?_ (fun i hi ih => ?_) 0 (Nat.zero_le _))
  · refine Ev.shift ?_
    have hs := ttext_size l
    simp only [impl_TupleText.l0, Int.lt_irrefl, if_false, List.take_length]
    have e : strings_Join.f (l.map vtext) ⟨#[44]⟩ = some (ttext l) := join_ev comma (l.map vtext) (by show (ttext l).size ≤ _; omega) (by rw [List.length_map]; omega)
    rw [e, Option.bind_some]
    exact Ev.now _
  · have h0 : (0 : Int) ≤ (i : Int) := by omega
    have h1 : (i : Int) < (l.length : Int) := by omega
    refine Ev.shift ?_
    have h5 : ((l.take i).map vtext).length < 8796093022208 := by rw [List.length_map, List.length_take]; omega
    rw [take_one hi, List.map_append, List.map_cons, List.map_nil] at ih
    simp only [impl_TupleText.l0, h1, h0, if_true, rdV_tt hi]
    refine Ev.bind (impl_ValueText_ev l[i]) ?_
    simp only [h5, if_true, succ64 hi (by omega)]
    exact ih
end Go.Proofs.Ytgnmdhkkbkoghaa.P
