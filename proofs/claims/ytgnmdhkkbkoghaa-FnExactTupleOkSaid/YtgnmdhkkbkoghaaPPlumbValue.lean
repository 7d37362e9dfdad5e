/- The laws' own functions on values and lists of values: what they tell. -/
import Derived.Test.YtgnmdhkkbkoghaaPxf17
import Derived.Test.YtgnmdhkkbkoghaaPxf19
import Derived.Test.YtgnmdhkkbkoghaaPxf27
import Derived.Test.YtgnmdhkkbkoghaaPxf29
import Derived.Test.YtgnmdhkkbkoghaaPxf31
import Derived.Test.YtgnmdhkkbkoghaaPxf57
import Derived.Test.YtgnmdhkkbkoghaaPWf
import Derived.Test.YtgnmdhkkbkoghaaZPure
set_option linter.unusedSimpArgs false
set_option linter.unusedVariables false
namespace Go.Proofs.Ytgnmdhkkbkoghaa.P
open Go.RowKit Go.Proofs.YtgnmdhkkbkoghaaW.PrintWords Go.Proofs.YtgnmdhkkbkoghaaW.PrintLast Go.Proofs.YtgnmdhkkbkoghaaZ
abbrev lV := S25
abbrev iV := S28
def cV (x : lV) : iV := ⟨x.f0, x.f1, x.f2⟩
def wtV (x : lV) : Int := x.f2.size
theorem szValue_eq (x : lV) (t : Int) (h0 : 0 ≤ t) (h1 : t ≤ 1048576) (hs : x.f2.size ≤ 9223372036854775807) : laws_szValue.f x.f0 x.f1 x.f2 t = some (lf (wtV x) t) := by
  have e : wrap64 (t - (x.f2.size : Int)) = t - x.f2.size := w64 (by omega) (by omega)
  unfold laws_szValue.f lf wtV
  rw [e]
  by_cases h : (x.f2.size : Int) ≤ t
  · rw [if_neg (by omega), if_pos h]
  · rw [if_pos (by omega), if_neg h]
theorem szValueS_ev (l : List lV) (hl : l.length ≤ 9223372036854775807 ∧ ∀ y ∈ l, wf25 y) (t : Int) (h0 : 0 ≤ t) (h1 : t ≤ 1048576) : Ev (fun k => laws_szValueS.f k l t) (lf (l.length + ctl wtV l) t) := by
  have hn : ∀ x : lV, 0 ≤ wtV x := fun x => by unfold wtV; omega
  have hc := ctl_nonneg hn l
  have e : wrap64 (t - (l.length : Int)) = t - l.length := w64 (by omega) (by omega)
  simp only [laws_szValueS.f, e]
  by_cases h : (l.length : Int) ≤ t
  · have c : ¬ (t - (l.length : Int) < 0) := by omega
    simp only [c, if_false]
    have h := size_ev l wtV hn 1048576 (g := fun k t i => laws_szValueS.l0 k l t i) ?_ ?_ ?_ (t - l.length) (by omega) (by omega)
    · refine h.to ?_
      unfold lf
      by_cases h2 : ctl wtV l ≤ t - l.length
      · rw [if_pos h2, if_pos (by omega)]; omega
      · rw [if_neg h2, if_neg (by omega)]
    · intro t
      refine Ev.shift ?_
      simp only [laws_szValueS.l0, Int.lt_irrefl, if_false]
      exact Ev.now _
    · intro t i x hx hi h0 h1 hlt
      have hr : rd_T25 l (i : Int) = x := getD_get hx
      have d1 : (i : Int) < (l.length : Int) := by omega
      have d2 : (0 : Int) ≤ (i : Int) := by omega
      have hm := (hl.2 x (List.mem_of_getElem? hx)).2.2
      refine Ev.shift ?_
      simp only [laws_szValueS.l0, d1, d2, if_true, hr, szValue_eq x t h0 h1 hm, lf_neg (show ¬ wtV x ≤ t by omega), Option.bind_some, show (-1 : Int) < 0 by decide]
      exact Ev.now _
    · intro t i x r hx hi h0 h1 hle h
      have hr : rd_T25 l (i : Int) = x := getD_get hx
      have d1 : (i : Int) < (l.length : Int) := by omega
      have d2 : (0 : Int) ≤ (i : Int) := by omega
      have hm := (hl.2 x (List.mem_of_getElem? hx)).2.2
      have d3 : ¬ (t - wtV x < 0) := by omega
      refine Ev.shift ?_
      simp only [laws_szValueS.l0, d1, d2, if_true, hr, szValue_eq x t h0 h1 hm, lf_pos hle, Option.bind_some, d3, if_false, succ64 hi hl.1]
      exact h
  · have c : t - (l.length : Int) < 0 := by omega
    simp only [c, if_true]
    exact Ev.val (lf_neg (by omega)).symm
theorem toValueS_ev (l : List lV) (hl : l.length ≤ 1048576) : Ev (fun k => laws_toValueS.f k l) (l.map cV) := by
  have c1 : (0 : Int) ≤ (l.length : Int) := by omega
  have c2 : l.length ≤ 8796093022208 := by omega
  simp only [laws_toValueS.f, c1, c2, if_true, Int.toNat_natCast]
  refine fill_ev l cV z28 (g := fun k s i => laws_toValueS.l0 k l s i) ?_ ?_
  · intro s hs
    refine Ev.shift ?_
    simp only [laws_toValueS.l0, Int.lt_irrefl, if_false]
    exact Ev.now _
  · intro s i x r hx hs hi h
    have hr : rd_T25 l (i : Int) = x := getD_get hx
    refine Ev.shift ?_
    have d1 : (i : Int) < (l.length : Int) := by omega
    have d2 : (0 : Int) ≤ (i : Int) := by omega
    have d3 : (i : Int) < (s.length : Int) := by omega
    simp only [laws_toValueS.l0, laws_toValue.f, Option.bind_some, d1, d2, d3, if_true, hr, Int.toNat_natCast, succ64 hi (by omega)]
    exact h
theorem eqValueS_ev (l : List iV) (hl : l.length ≤ 9223372036854775807) : Ev (fun k => laws_eqValueS.f k l l) true := by
  simp only [laws_eqValueS.f, if_true]
  refine look_ev l true (g := fun k i => laws_eqValueS.l0 k l l i) ?_ ?_
  · refine Ev.shift ?_
    simp only [laws_eqValueS.l0, Int.lt_irrefl, if_false]
    exact Ev.now _
  · intro i x hx hi h
    refine Ev.shift ?_
    have d1 : (i : Int) < (l.length : Int) := by omega
    have d2 : (0 : Int) ≤ (i : Int) := by omega
    simp only [laws_eqValueS.l0, laws_eqValue.f, Option.bind_some, d1, d2, if_true, succ64 hi hl]
    exact h
end Go.Proofs.Ytgnmdhkkbkoghaa.P
