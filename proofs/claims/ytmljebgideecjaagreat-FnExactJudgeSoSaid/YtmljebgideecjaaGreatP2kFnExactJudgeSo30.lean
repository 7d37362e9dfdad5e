/- A part of the proof of the law FnExactJudgeSo: texts of this seat, merged (words, printed functions of the program, plain lemmas). Conditions: none of its own. -/
import Derived.Test.YtmljebgideecjaaGreatP2kFnExactJudgeSo1
import Derived.Test.YtmljebgideecjaaGreatP2kFnExactJudgeSo12
import Derived.Test.YtmljebgideecjaaGreatP2kFnExactJudgeSo13
import Derived.Test.YtmljebgideecjaaGreatP2kFnExactJudgeSo14
import Derived.Test.YtmljebgideecjaaGreatP2kFnExactJudgeSo15
import Derived.Test.YtmljebgideecjaaGreatP2kFnExactJudgeSo20
import Derived.Test.YtmljebgideecjaaGreatP2kFnExactJudgeSo21
import Derived.Test.YtmljebgideecjaaGreatP2kFnExactJudgeSo22
import Derived.Test.YtmljebgideecjaaGreatP2kFnExactJudgeSo28
import Derived.Test.YtmljebgideecjaaGreatP2kFnExactJudgeSo29
set_option linter.unusedSimpArgs false
set_option linter.unusedVariables false
set_option maxHeartbeats 8000000
set_option maxRecDepth 100000
namespace Go.Proofs.YtmljebgideecjaaGreat.P2
open Go.RowKit Go.Proofs.YtmljebgideecjaaGreatW.PrintWords Go.Proofs.YtmljebgideecjaaGreatW.PrintLast Go.Proofs.YtmljebgideecjaaGreatZ
theorem place_eq (n : Int) : impl_isPlace.f n = some (decide (0 ≤ n ∧ n ≤ 19)) := by simp only [impl_isPlace.f, implFrom_eq, Option.bind_some]
theorem wnum_eq (n : Int) : impl_isWordNum.f n = some (decide (0 ≤ n ∧ n ≤ 1000)) := by simp only [impl_isWordNum.f, implFrom_eq, Option.bind_some]
def wordP (n : Int) (w : mW) : Prop := (w.f1 = 0 ∧ w.f2 = 0 ∧ 0 ≤ w.f0 ∧ w.f0 ≤ 1000) ∨ (w.f1 ≠ 0 ∧ w.f0 = 0 ∧ (1 ≤ w.f1 ∧ w.f1 ≤ n) ∧ 1 ≤ w.f2 ∧ w.f2 ≤ 1000000)
theorem spec_WordOk_b (n : Int) (w : mW) : EvB (fun _ => spec_WordOk.f w.f0 w.f1 w.f2 n) (wordP n w) := by
 simp only [spec_WordOk.f, specIn_eq, Option.bind_some, decide_eq_true_eq]
 refine EvB.ite (fun h1 => EvB.ite (fun h2 => EvB.now ?_) (fun h2 => EvB.no (Ev.now _) ?_)) (fun h1 => EvB.ite (fun h2 => EvB.ite (fun h3 => EvB.now ?_) (fun h3 => EvB.no (Ev.now _) ?_)) (fun h2 => EvB.no (Ev.now _) ?_))
 ·rw [decide_eq_true_iff]; unfold wordP; omega
 ·unfold wordP; omega
 ·rw [decide_eq_true_iff]; unfold wordP; omega
 ·unfold wordP; omega
 ·unfold wordP; omega
theorem impl_WordOk_b (n : Int) (w : mW) : EvB (fun _ => impl_WordOk.f w.f0 w.f1 w.f2 n) (wordP n w) := by
 simp only [impl_WordOk.f, wnum_eq, implFrom_eq, Option.bind_some, decide_eq_true_eq]
 refine EvB.ite (fun h1 => EvB.ite (fun h2 => EvB.now ?_) (fun h2 => EvB.no (Ev.now _) ?_)) (fun h1 => EvB.ite (fun h2 => EvB.ite (fun h3 => EvB.now ?_) (fun h3 => EvB.no (Ev.now _) ?_)) (fun h2 => EvB.no (Ev.now _) ?_))
 ·rw [beq_iff_eq]; unfold wordP; omega
 ·unfold wordP; omega
 ·rw [decide_eq_true_iff]; unfold wordP; omega
 ·unfold wordP; omega
 ·unfold wordP; omega
def entP (l : List mE) (i : Nat) (e : mE) : Prop := (0 ≤ e.f0 ∧ e.f0 ≤ 19) ∧ (0 ≤ e.f1 ∧ e.f1 ≤ 1000) ∧ (0 ≤ e.f2 ∧ e.f2 ≤ 1000) ∧ (0 < i → (rd_T165 l ((i : Int) - 1)).f0 < e.f0)
def descP (a b : Int) (l : List mE) (c : Int) (q : List Int) : Prop :=
 (a = 0 ∧ b = 0 ∧ l.length = 0 ∧ c = 0 ∧ q.length = 0) ∨ (a ≠ 0 ∧ (1 ≤ a ∧ a ≤ 1000000) ∧ (1 ≤ b ∧ b ≤ 3) ∧ l.length ≤ 20 ∧ ∀ i e, l[i]? = some e → entP l i e)
theorem desc_zero {a b c : Int} {l : List mE} {q : List Int} (h : a = 0) : descP a b l c q ↔ (b = 0 ∧ l.length = 0 ∧ c = 0 ∧ q.length = 0) :=
 ⟨fun p => p.elim (fun x => x.2) (fun x => absurd h x.1), fun p => .inl ⟨h, p⟩⟩
theorem desc_some {a b c : Int} {l : List mE} {q : List Int} (h : ¬ a = 0) : descP a b l c q ↔ ((1 ≤ a ∧ a ≤ 1000000) ∧ (1 ≤ b ∧ b ≤ 3) ∧ l.length ≤ 20 ∧ ∀ i e, l[i]? = some e → entP l i e) :=
 ⟨fun p => p.elim (fun x => absurd x.1 h) (fun x => x.2), fun p => .inr ⟨h, p⟩⟩
theorem spec_DescOk_l0 (a b : Int) (l : List mE) (c : Int) (q : List Int) (hl : l.length ≤ 1048576) : EvB (fun k => spec_DescOk.l0 k 0 a b l c q) (∀ i e, l[i]? = some e → entP l i e) := by
 refine (EvB.each l (R := entP l) (Q := True) (g := fun i k => spec_DescOk.l0 k (i : Int) a b l c q) (fun _ => ?_) (fun i x hx hi hp hn => ?_) (fun i x hx hi hp hr r h => ?_)).iff (by simp)
 ·refine EvB.yes (Ev.shift ?_) trivial
  simp only [spec_DescOk.l0, Int.lt_irrefl, if_false]
  exact Ev.now _
 ·have c0 : (0 : Int) ≤ (i : Int) := by omega
  have c1 : (i : Int) < (l.length : Int) := by omega
  have er : rd_T165 l (i : Int) = x := getD_get hx
  refine Ev.shift ?_
  simp only [spec_DescOk.l0, c0, c1, if_true, er, specIn_eq, Option.bind_some, decide_eq_true_eq]
  by_cases h1 : 0 ≤ x.f0 ∧ x.f0 ≤ 19
  ·by_cases h2 : 0 ≤ x.f1 ∧ x.f1 ≤ 1000
   ·by_cases h3 : 0 ≤ x.f2 ∧ x.f2 ≤ 1000
    ·by_cases h4 : (i : Int) > 0
     ·have e1 : wrap64 ((i : Int) - 1) = (i : Int) - 1 := w64 (by omega) (by omega)
      have e2 : (0 : Int) ≤ (i : Int) - 1 := by omega
      have e3 : (i : Int) - 1 < (l.length : Int) := by omega
      have h5 : (rd_T165 l ((i : Int) - 1)).f0 ≥ x.f0 := by
       refine Int.not_lt.mp fun a => hn ⟨h1, h2, h3, fun _ => a⟩
      simp only [h1, h2, h3, h4, e1, e2, e3, h5, and_self, if_true]
      exact Ev.now _
     ·exact absurd ⟨h1, h2, h3, fun a => absurd a (by omega)⟩ hn
    ·simp only [h1, h2, h3, and_self, if_true, if_false]; exact Ev.now _
   ·simp only [h1, h2, and_self, if_true, if_false]; exact Ev.now _
  ·simp only [h1, if_false]; exact Ev.now _
 ·have c0 : (0 : Int) ≤ (i : Int) := by omega
  have c1 : (i : Int) < (l.length : Int) := by omega
  have er : rd_T165 l (i : Int) = x := getD_get hx
  obtain ⟨h1, h2, h3, h4⟩ := hr
  refine Ev.shift ?_
  simp only [spec_DescOk.l0, c0, c1, if_true, er, specIn_eq, Option.bind_some, decide_eq_true_eq, h1, h2, h3, and_self, succ64 hi (by omega)]
  by_cases h5 : (i : Int) > 0
  ·have e1 : wrap64 ((i : Int) - 1) = (i : Int) - 1 := w64 (by omega) (by omega)
   have e2 : (0 : Int) ≤ (i : Int) - 1 := by omega
   have e3 : (i : Int) - 1 < (l.length : Int) := by omega
   have h6 : ¬ (rd_T165 l ((i : Int) - 1)).f0 ≥ x.f0 := Int.not_le.mpr (h4 (by omega))
   simp only [h5, e1, e2, e3, h6, if_true, if_false]
   exact h
  ·simp only [h5, if_false]
   exact h
theorem spec_DescOk_b (a b : Int) (l : List mE) (c : Int) (q : List Int) (hl : l.length ≤ 1048576) : EvB (fun k => spec_DescOk.f k a b l c q) (descP a b l c q) := by
 simp only [spec_DescOk.f, specIn_eq, Option.bind_some, decide_eq_true_eq]
 refine EvB.ite (fun h0 => ?_) (fun h0 => ?_)
 ·refine EvB.iff ?_ (desc_zero h0).symm
  refine EvB.ite (fun h1 => EvB.ite (fun h2 => EvB.ite (fun h3 => EvB.now ?_) (fun h3 => EvB.no (Ev.now _) ?_)) (fun h2 => EvB.no (Ev.now _) ?_)) (fun h1 => EvB.no (Ev.now _) ?_)
  ·rw [beq_iff_eq]; omega
  ·omega
  ·omega
  ·omega
 ·refine EvB.iff ?_ (desc_some h0).symm
  have bad : ∀ z, ¬ ((1 ≤ a ∧ a ≤ 1000000) ∧ (1 ≤ b ∧ b ≤ 3) ∧ l.length ≤ 20) ∨ z → z → True := fun _ _ _ => trivial
  refine EvB.ite (fun h1 => EvB.ite (fun h2 => ?_) (fun h2 => EvB.no (Ev.shift ?_) (fun p => h2 p.2.1))) (fun h1 => EvB.no (Ev.shift ?_) (fun p => h1 p.1))
  ·by_cases h3 : (l.length : Int) > 20
   ·refine EvB.no (Ev.shift ?_) (fun p => absurd p.2.2.1 (by omega))
    simp only [spec_DescOk.j0, h3, decide_true, if_true]
    exact Ev.now _
   ·refine EvB.shift ?_
    simp only [spec_DescOk.j0, h3, decide_false, Bool.false_eq_true, if_false]
    exact (spec_DescOk_l0 a b l c q hl).iff ⟨fun p => ⟨h1, h2, by omega, p⟩, fun p => p.2.2.2⟩
  ·simp only [spec_DescOk.j0, if_true]; exact Ev.now _
  ·simp only [spec_DescOk.j0, if_true]; exact Ev.now _
theorem impl_DescOk_b (a b : Int) (l : List mE) (c : Int) (q : List Int) (hl : l.length ≤ 1048576) : EvB (fun k => impl_DescOk.f k a b l c q) (descP a b l c q) := by
 simp only [impl_DescOk.f]
 refine EvB.ite (fun h0 => ?_) (fun h0 => ?_)
 ·refine EvB.iff ?_ (desc_zero h0).symm
  refine EvB.ite (fun h1 => EvB.ite (fun h2 => EvB.ite (fun h3 => EvB.now ?_) (fun h3 => EvB.no (Ev.now _) ?_)) (fun h2 => EvB.no (Ev.now _) ?_)) (fun h1 => EvB.no (Ev.now _) ?_)
  ·rw [beq_iff_eq]; omega
  ·omega
  ·omega
  ·omega
 ·refine EvB.iff ?_ (desc_some h0).symm
  refine (EvB.each l (R := entP l) (Q := (1 ≤ a ∧ a ≤ 1000000) ∧ (1 ≤ b ∧ b ≤ 3) ∧ l.length ≤ 20) (g := fun i k => impl_DescOk.l0 k l (l.length : Int) (i : Int) a b l c q) (fun _ => ?_) (fun i x hx hi hp hn => ?_) (fun i x hx hi hp hr r h => ?_)).iff ⟨fun p => ⟨p.2.1, p.2.2.1, p.2.2.2, p.1⟩, fun p => ⟨p.2.2.2, p.1, p.2.1, p.2.2.1⟩⟩
  ·refine EvB.shift ?_
   simp only [impl_DescOk.l0, Int.lt_irrefl, if_false, implFrom_eq, Option.bind_some, decide_eq_true_eq]
   refine EvB.ite (fun h1 => EvB.ite (fun h2 => EvB.now ?_) (fun h2 => EvB.no (Ev.now _) (fun p => h2 p.2.1))) (fun h1 => EvB.no (Ev.now _) (fun p => h1 p.1))
   rw [decide_eq_true_iff]
   exact ⟨fun p => ⟨h1, h2, by omega⟩, fun p => by omega⟩
  ·have c0 : (0 : Int) ≤ (i : Int) := by omega
   have c1 : (i : Int) < (l.length : Int) := by omega
   have er : rd_T165 l (i : Int) = x := getD_get hx
   refine Ev.shift ?_
   simp only [impl_DescOk.l0, c0, c1, if_true, er, place_eq, wnum_eq, Option.bind_some, decide_eq_true_eq]
   by_cases h1 : 0 ≤ x.f0 ∧ x.f0 ≤ 19
   ·by_cases h2 : 0 ≤ x.f1 ∧ x.f1 ≤ 1000
    ·by_cases h3 : 0 ≤ x.f2 ∧ x.f2 ≤ 1000
     ·by_cases h4 : (i : Int) > 0
      ·have e1 : wrap64 ((i : Int) - 1) = (i : Int) - 1 := w64 (by omega) (by omega)
       have e2 : (0 : Int) ≤ (i : Int) - 1 := by omega
       have e3 : (i : Int) - 1 < (l.length : Int) := by omega
       have h5 : (rd_T165 l ((i : Int) - 1)).f0 ≥ x.f0 := by
        refine Int.not_lt.mp fun a => hn ⟨h1, h2, h3, fun _ => a⟩
       simp only [h1, h2, h3, h4, e1, e2, e3, h5, and_self, if_true]
       exact Ev.now _
      ·exact absurd ⟨h1, h2, h3, fun a => absurd a (by omega)⟩ hn
     ·simp only [h1, h2, h3, and_self, if_true, if_false]; exact Ev.now _
    ·simp only [h1, h2, and_self, if_true, if_false]; exact Ev.now _
   ·simp only [h1, if_false]; exact Ev.now _
  ·have c0 : (0 : Int) ≤ (i : Int) := by omega
   have c1 : (i : Int) < (l.length : Int) := by omega
   have er : rd_T165 l (i : Int) = x := getD_get hx
   obtain ⟨h1, h2, h3, h4⟩ := hr
   refine Ev.shift ?_
   simp only [impl_DescOk.l0, c0, c1, if_true, er, place_eq, wnum_eq, Option.bind_some, decide_eq_true_eq, h1, h2, h3, and_self, succ64 hi (by omega)]
   by_cases h5 : (i : Int) > 0
   ·have e1 : wrap64 ((i : Int) - 1) = (i : Int) - 1 := w64 (by omega) (by omega)
    have e2 : (0 : Int) ≤ (i : Int) - 1 := by omega
    have e3 : (i : Int) - 1 < (l.length : Int) := by omega
    have h6 : ¬ (rd_T165 l ((i : Int) - 1)).f0 ≥ x.f0 := Int.not_le.mpr (h4 (by omega))
    simp only [h5, e1, e2, e3, h6, if_true, if_false]
    exact h
   ·simp only [h5, if_false]
    exact h
def dP (x : mD) : Prop := descP x.f0 x.f1 x.f2 x.f3.f0 x.f3.f1
def smD (d : List mD) : Prop := ∀ x ∈ d, x.f2.length ≤ 1048576
def markP (d : List mD) (i : Nat) (x : mW) : Prop := wordP d.length x ∧ (x.f1 = 0 ∨ ((entL (rd_T162 d (x.f1 - 1)).f2 (i : Int)).2.2.2 = true ∧ (rd_T162 d (x.f1 - 1)).f0 = x.f2))
def memP (w : List mW) (d : List mD) : Prop := (w.length = 20 ∧ 1 ≤ d.length ∧ d.length ≤ 4) ∧ (∀ x ∈ d, dP x) ∧ ∀ i x, w[i]? = some x → markP d i x
theorem spec_marks_b (w : List mW) (d : List mD) (hw : w.length ≤ 1048576) (hd : d.length ≤ 1048576) (sd : smD d) : EvB (fun k => spec_MemOk.l1 k 0 w d) (∀ i x, w[i]? = some x → markP d i x) := by
 refine (EvB.each w (R := markP d) (Q := True) (g := fun i k => spec_MemOk.l1 k (i : Int) w d) (fun _ => ?_) (fun i x hx hi hp hn => ?_) (fun i x hx hi hp hr r h => ?_)).iff (by simp)
 ·refine EvB.yes (Ev.shift ?_) trivial
  simp only [spec_MemOk.l1, Int.lt_irrefl, if_false]
  exact Ev.now _
 ·have c0 : (0 : Int) ≤ (i : Int) := by omega
  have c1 : (i : Int) < (w.length : Int) := by omega
  have er : rd_T140 w (i : Int) = x := getD_get hx
  refine Ev.shift ?_
  simp only [spec_MemOk.l1, c0, c1, if_true, er]
  refine EvB.then_ (spec_WordOk_b d.length x) (fun hwp => ?_) (fun hwp => Ev.neg (by decide) (Ev.now _))
  refine Ev.pos rfl ?_
  by_cases hz : x.f1 = 0
  ·exact absurd ⟨hwp, .inl hz⟩ hn
  ·obtain ⟨b1, b2⟩ : 1 ≤ x.f1 ∧ x.f1 ≤ (d.length : Int) := by unfold wordP at hwp; omega
   have e1 : wrap64 (x.f1 - 1) = x.f1 - 1 := w64 (by omega) (by omega)
   have e2 : (0 : Int) ≤ x.f1 - 1 := by omega
   have e3 : x.f1 - 1 < (d.length : Int) := by omega
   have e4 : x.f1 > 0 := by omega
   have e5 : (rd_T162 d (x.f1 - 1)).f2.length ≤ 1048576 := by
    obtain ⟨j, hj⟩ : ∃ j : Nat, x.f1 - 1 = (j : Int) := ⟨(x.f1 - 1).toNat, by omega⟩
    have hjl : j < d.length := by omega
    rw [hj, show rd_T162 d (j : Int) = d[j] from getD_get (List.getElem?_eq_getElem hjl)]
    exact sd _ (List.getElem_mem hjl)
   simp only [e4, e1, e2, e3, if_true]
   refine Ev.bind (spec_Entries_ev _ _ _ _ _ (i : Int) (by omega)) ?_
   by_cases g1 : (entL (rd_T162 d (x.f1 - 1)).f2 (i : Int)).2.2.2 = true
   ·refine Ev.pos g1 (Ev.neg (fun g2 => hn ⟨hwp, .inr ⟨g1, g2⟩⟩) (Ev.now _))
   ·exact Ev.neg g1 (Ev.now _)
 ·have c0 : (0 : Int) ≤ (i : Int) := by omega
  have c1 : (i : Int) < (w.length : Int) := by omega
  have er : rd_T140 w (i : Int) = x := getD_get hx
  obtain ⟨hwp, hm⟩ := hr
  refine Ev.shift ?_
  simp only [spec_MemOk.l1, c0, c1, if_true, er, succ64 hi (by omega)]
  refine Ev.bind ((spec_WordOk_b d.length x).val hwp) (Ev.pos rfl ?_)
  rcases hm with hz | ⟨g1, g2⟩
  ·exact Ev.neg (by omega) h
  ·by_cases hz : x.f1 = 0
   ·exact Ev.neg (by omega) h
   ·obtain ⟨b1, b2⟩ : 1 ≤ x.f1 ∧ x.f1 ≤ (d.length : Int) := by unfold wordP at hwp; omega
    have e1 : wrap64 (x.f1 - 1) = x.f1 - 1 := w64 (by omega) (by omega)
    have e2 : (0 : Int) ≤ x.f1 - 1 := by omega
    have e3 : x.f1 - 1 < (d.length : Int) := by omega
    have e4 : x.f1 > 0 := by omega
    have e5 : (rd_T162 d (x.f1 - 1)).f2.length ≤ 1048576 := by
     obtain ⟨j, hj⟩ : ∃ j : Nat, x.f1 - 1 = (j : Int) := ⟨(x.f1 - 1).toNat, by omega⟩
     have hjl : j < d.length := by omega
     rw [hj, show rd_T162 d (j : Int) = d[j] from getD_get (List.getElem?_eq_getElem hjl)]
     exact sd _ (List.getElem_mem hjl)
    simp only [e4, e1, e2, e3, if_true]
    exact Ev.bind (spec_Entries_ev _ _ _ _ _ (i : Int) (by omega)) (Ev.pos g1 (Ev.pos g2 h))
theorem impl_marks_b (w : List mW) (d : List mD) (hw : w.length ≤ 1048576) (hd : d.length ≤ 1048576) (sd : smD d) : EvB (fun k => impl_MemOk.l0 k w (w.length : Int) 0 w d) (∀ i x, w[i]? = some x → markP d i x) := by
 refine (EvB.each w (R := markP d) (Q := True) (g := fun i k => impl_MemOk.l0 k w (w.length : Int) (i : Int) w d) (fun _ => ?_) (fun i x hx hi hp hn => ?_) (fun i x hx hi hp hr r h => ?_)).iff (by simp)
 ·refine EvB.yes (Ev.shift ?_) trivial
  simp only [impl_MemOk.l0, Int.lt_irrefl, if_false]
  exact Ev.now _
 ·have c0 : (0 : Int) ≤ (i : Int) := by omega
  have c1 : (i : Int) < (w.length : Int) := by omega
  have er : rd_T140 w (i : Int) = x := getD_get hx
  refine Ev.shift ?_
  simp only [impl_MemOk.l0, c0, c1, if_true, er]
  refine EvB.then_ (impl_WordOk_b d.length x) (fun hwp => ?_) (fun hwp => Ev.neg (by decide) (Ev.now _))
  refine Ev.pos rfl ?_
  by_cases hz : x.f1 = 0
  ·exact absurd ⟨hwp, .inl hz⟩ hn
  ·obtain ⟨b1, b2⟩ : 1 ≤ x.f1 ∧ x.f1 ≤ (d.length : Int) := by unfold wordP at hwp; omega
   have e1 : wrap64 (x.f1 - 1) = x.f1 - 1 := w64 (by omega) (by omega)
   have e2 : (0 : Int) ≤ x.f1 - 1 := by omega
   have e3 : x.f1 - 1 < (d.length : Int) := by omega
   have e5 : (rd_T162 d (x.f1 - 1)).f2.length ≤ 1048576 := by
    obtain ⟨j, hj⟩ : ∃ j : Nat, x.f1 - 1 = (j : Int) := ⟨(x.f1 - 1).toNat, by omega⟩
    have hjl : j < d.length := by omega
    rw [hj, show rd_T162 d (j : Int) = d[j] from getD_get (List.getElem?_eq_getElem hjl)]
    exact sd _ (List.getElem_mem hjl)
   simp only [hz, e1, e2, e3, if_true, if_false]
   refine Ev.bind (impl_Entries_ev _ _ _ _ _ (i : Int) (by omega)) ?_
   by_cases g1 : (entL (rd_T162 d (x.f1 - 1)).f2 (i : Int)).2.2.2 = true
   ·refine Ev.pos g1 (Ev.neg (fun g2 => hn ⟨hwp, .inr ⟨g1, g2⟩⟩) (Ev.now _))
   ·exact Ev.neg g1 (Ev.now _)
 ·have c0 : (0 : Int) ≤ (i : Int) := by omega
  have c1 : (i : Int) < (w.length : Int) := by omega
  have er : rd_T140 w (i : Int) = x := getD_get hx
  obtain ⟨hwp, hm⟩ := hr
  refine Ev.shift ?_
  simp only [impl_MemOk.l0, c0, c1, if_true, er, succ64 hi (by omega)]
  refine Ev.bind ((impl_WordOk_b d.length x).val hwp) (Ev.pos rfl ?_)
  rcases hm with hz | ⟨g1, g2⟩
  ·exact Ev.pos hz h
  ·by_cases hz : x.f1 = 0
   ·exact Ev.pos hz h
   ·obtain ⟨b1, b2⟩ : 1 ≤ x.f1 ∧ x.f1 ≤ (d.length : Int) := by unfold wordP at hwp; omega
    have e1 : wrap64 (x.f1 - 1) = x.f1 - 1 := w64 (by omega) (by omega)
    have e2 : (0 : Int) ≤ x.f1 - 1 := by omega
    have e3 : x.f1 - 1 < (d.length : Int) := by omega
    have e5 : (rd_T162 d (x.f1 - 1)).f2.length ≤ 1048576 := by
     obtain ⟨j, hj⟩ : ∃ j : Nat, x.f1 - 1 = (j : Int) := ⟨(x.f1 - 1).toNat, by omega⟩
     have hjl : j < d.length := by omega
     rw [hj, show rd_T162 d (j : Int) = d[j] from getD_get (List.getElem?_eq_getElem hjl)]
     exact sd _ (List.getElem_mem hjl)
    simp only [hz, e1, e2, e3, if_true, if_false]
    exact Ev.bind (impl_Entries_ev _ _ _ _ _ (i : Int) (by omega)) (Ev.pos g1 (Ev.pos g2 h))
theorem spec_MemOk_b (w : List mW) (d : List mD) (hw : w.length ≤ 1048576) (hd : d.length ≤ 1048576) (sd : smD d) : EvB (fun k => spec_MemOk.f k w d) (memP w d) := by
 simp only [spec_MemOk.f, specIn_eq, Option.bind_some]
 refine EvB.ite (fun h0 => ?_) (fun h0 => EvB.no (Ev.shift (by simp only [spec_MemOk.j0, if_true]; exact Ev.now _)) (fun p => absurd p.1.1 (by omega)))
 by_cases h1 : 1 ≤ (d.length : Int) ∧ (d.length : Int) ≤ 4
 ·refine EvB.shift ?_
  simp only [h1, and_self, decide_true, Bool.not_true, spec_MemOk.j0, Bool.false_eq_true, if_false]
  refine (EvB.each d (R := fun _ x => dP x) (Q := ∀ i x, w[i]? = some x → markP d i x) (g := fun i k => spec_MemOk.l0 k (i : Int) w d) (fun _ => ?_) (fun i x hx hi hp hn => ?_) (fun i x hx hi hp hr r h => ?_)).iff ?_
  ·refine EvB.shift ?_
   simp only [spec_MemOk.l0, Int.lt_irrefl, if_false]
   exact spec_marks_b w d hw hd sd
  ·have c0 : (0 : Int) ≤ (i : Int) := by omega
   have c1 : (i : Int) < (d.length : Int) := by omega
   have er : rd_T162 d (i : Int) = x := getD_get hx
   refine Ev.shift ?_
   simp only [spec_MemOk.l0, c0, c1, if_true, er]
   exact Ev.bind ((spec_DescOk_b _ _ _ _ _ (sd x (List.mem_of_getElem? hx))).nval hn) (Ev.neg (by decide) (Ev.now _))
  ·have c0 : (0 : Int) ≤ (i : Int) := by omega
   have c1 : (i : Int) < (d.length : Int) := by omega
   have er : rd_T162 d (i : Int) = x := getD_get hx
   refine Ev.shift ?_
   simp only [spec_MemOk.l0, c0, c1, if_true, er, succ64 hi (by omega)]
   exact Ev.bind ((spec_DescOk_b _ _ _ _ _ (sd x (List.mem_of_getElem? hx))).val hr) (Ev.pos rfl h)
  ·rw [each_mem]
   exact ⟨fun p => ⟨⟨by omega, by omega, by omega⟩, p⟩, fun p => p.2⟩
 ·refine EvB.no (Ev.shift ?_) (fun p => h1 (by have := p.1.2; omega))
  simp only [h1, decide_false, Bool.not_false, spec_MemOk.j0, if_true]
  exact Ev.now _
theorem impl_MemOk_b (w : List mW) (d : List mD) (hw : w.length ≤ 1048576) (hd : d.length ≤ 1048576) (sd : smD d) : EvB (fun k => impl_MemOk.f k w d) (memP w d) := by
 simp only [impl_MemOk.f, implFrom_eq, Option.bind_some, decide_eq_true_eq]
 have bad : Ev (fun k => impl_MemOk.j0 k true w d) false := Ev.shift (by simp only [impl_MemOk.j0, if_true]; exact Ev.now _)
 refine EvB.ite (fun h0 => ?_) (fun h0 => EvB.no bad (fun p => absurd p.1.1 (by omega)))
 refine EvB.ite (fun h1 => ?_) (fun h1 => EvB.no bad (fun p => h1 (by have := p.1.2; omega)))
 obtain ⟨r, q1, q2, q3⟩ := first_ev d (fun x => ¬ dP x) (g := fun i k => impl_Desc_208_170.l0 k d (d.length : Int) (i : Int)) (by
  refine Ev.shift ?_
  simp only [impl_Desc_208_170.l0, Int.lt_irrefl, if_false]
  exact Ev.now _) (fun i x hx hi hn => by
  have c0 : (0 : Int) ≤ (i : Int) := by omega
  have c1 : (i : Int) < (d.length : Int) := by omega
  have er : rd_T162 d (i : Int) = x := getD_get hx
  refine Ev.shift ?_
  simp only [impl_Desc_208_170.l0, c0, c1, if_true, er, impl_MemOk_1.f]
  exact Ev.bind (Ev.bind ((impl_DescOk_b _ _ _ _ _ (sd x (List.mem_of_getElem? hx))).nval hn) (Ev.now _)) (Ev.pos rfl (Ev.now _))) (fun i x hx hi hn r h => by
  have c0 : (0 : Int) ≤ (i : Int) := by omega
  have c1 : (i : Int) < (d.length : Int) := by omega
  have er : rd_T162 d (i : Int) = x := getD_get hx
  refine Ev.shift ?_
  simp only [impl_Desc_208_170.l0, c0, c1, if_true, er, impl_MemOk_1.f, succ64 hi (by omega)]
  exact Ev.bind (Ev.bind ((impl_DescOk_b _ _ _ _ _ (sd x (List.mem_of_getElem? hx))).val (Classical.not_not.mp hn)) (Ev.now _)) (Ev.neg (by decide) h))
 have q4 : (∀ x ∈ d, dP x) ↔ ¬ r ≥ 0 := by
  rw [q3]
  exact ⟨fun p ⟨x, hx, hn⟩ => hn (p x hx), fun p x hx => Classical.byContradiction fun hn => p ⟨x, hx, hn⟩⟩
 have hf : Ev (fun k => impl_Desc_169_170.f k d) (decide (r ≥ 0)) := by
  simp only [impl_Desc_169_170.f, impl_Desc_208_170.f]
  exact Ev.bind q1 (Ev.now _)
 refine EvB.at hf ?_
 by_cases h2 : r ≥ 0
 ·refine EvB.no ?_ (fun p => q4.mp p.2.1 h2)
  simp only [h2, decide_true]
  exact bad
 ·refine EvB.shift ?_
  simp only [h2, decide_false, impl_MemOk.j0, Bool.false_eq_true, if_false]
  exact (impl_marks_b w d hw hd sd).iff ⟨fun p => ⟨⟨by omega, by omega, by omega⟩, q4.mpr h2, p⟩, fun p => p.2.2⟩
abbrev mO := S69
abbrev mP := S172
abbrev mH := S174
abbrev mT := S97
def opP (x : mO) : Prop := opOk x.f0 x.f1 x.f2 = true
def pairP (x : mP) : Prop := (0 ≤ x.f0 ∧ x.f0 ≤ 19) ∧ (0 ≤ x.f1 ∧ x.f1 ≤ 1000)
def helpP (n : Int) (x : mH) : Prop := (0 ≤ x.f0 ∧ x.f0 < n) ∧ (1 ≤ x.f1 ∧ x.f1 ≤ 1000000) ∧ (0 ≤ x.f2 ∧ x.f2 ≤ 20) ∧ (0 ≤ x.f3 ∧ x.f3 ≤ 20)
def thrN (x : mT) : Prop := x.f0.length ≤ 8 ∧ (0 ≤ x.f1 ∧ x.f1 ≤ x.f0.length) ∧ (x.f2 = true → x.f1 < x.f0.length) ∧ (x.f2 = false → x.f3.length = 0 ∧ x.f4.length = 0) ∧ x.f3.length ≤ 12 ∧ x.f4.length ≤ 2
def thrP (n : Int) (x : mT) : Prop := thrN x ∧ (∀ y ∈ x.f0, opP y) ∧ (∀ y ∈ x.f3, pairP y) ∧ (∀ y ∈ x.f4, helpP n y)
def smT (x : mT) : Prop := x.f0.length ≤ 1048576 ∧ x.f3.length ≤ 1048576 ∧ x.f4.length ≤ 1048576
theorem specThr_l2 (n : Int) (x : mT) (h : smT x) : EvB (fun k => spec_ThreadOk.l2 k n 0 x.f0 x.f1 x.f2 x.f3 x.f4) (∀ y ∈ x.f4, helpP n y) := by
 refine (EvB.each x.f4 (R := fun _ y => helpP n y) (Q := True) (g := fun i k => spec_ThreadOk.l2 k n (i : Int) x.f0 x.f1 x.f2 x.f3 x.f4) (fun _ => ?_) (fun i y hx hi hp hn => ?_) (fun i y hx hi hp hr r g => ?_)).iff (by rw [each_mem, and_true])
 ·refine EvB.yes (Ev.shift ?_) trivial
  simp only [spec_ThreadOk.l2, Int.lt_irrefl, if_false]
  exact Ev.now _
 ·have c0 : (0 : Int) ≤ (i : Int) := by omega
  have c1 : (i : Int) < (x.f4.length : Int) := by omega
  have er : rd_T174 x.f4 (i : Int) = y := getD_get hx
  refine Ev.shift ?_
  simp only [spec_ThreadOk.l2, c0, c1, if_true, er, specIn_eq, Option.bind_some, decide_eq_true_eq]
  by_cases h1 : y.f0 < 0
  ·exact Ev.pos h1 (Ev.now _)
  ·refine Ev.neg h1 ?_
   by_cases h2 : y.f0 ≥ n
   ·exact Ev.pos h2 (Ev.now _)
   ·refine Ev.neg h2 ?_
    by_cases h3 : 1 ≤ y.f1 ∧ y.f1 ≤ 1000000
    ·refine Ev.pos h3 ?_
     by_cases h4 : 0 ≤ y.f2 ∧ y.f2 ≤ 20
     ·refine Ev.pos h4 (Ev.neg (fun h5 => hn ⟨by omega, h3, h4, h5⟩) (Ev.now _))
     ·exact Ev.neg h4 (Ev.now _)
    ·exact Ev.neg h3 (Ev.now _)
 ·have c0 : (0 : Int) ≤ (i : Int) := by omega
  have c1 : (i : Int) < (x.f4.length : Int) := by omega
  have er : rd_T174 x.f4 (i : Int) = y := getD_get hx
  have := h.2.2
  obtain ⟨h1, h3, h4, h5⟩ := hr
  refine Ev.shift ?_
  simp only [spec_ThreadOk.l2, c0, c1, if_true, er, specIn_eq, Option.bind_some, decide_eq_true_eq, succ64 hi (by omega)]
  exact Ev.neg (by omega) (Ev.neg (by omega) (Ev.pos h3 (Ev.pos h4 (Ev.pos h5 g))))
theorem specThr_l1 (n : Int) (x : mT) (h : smT x) : EvB (fun k => spec_ThreadOk.l1 k n 0 x.f0 x.f1 x.f2 x.f3 x.f4) ((∀ y ∈ x.f3, pairP y) ∧ ∀ y ∈ x.f4, helpP n y) := by
 refine (EvB.each x.f3 (R := fun _ y => pairP y) (Q := ∀ y ∈ x.f4, helpP n y) (g := fun i k => spec_ThreadOk.l1 k n (i : Int) x.f0 x.f1 x.f2 x.f3 x.f4) (fun _ => ?_) (fun i y hx hi hp hn => ?_) (fun i y hx hi hp hr r g => ?_)).iff (by rw [each_mem])
 ·refine EvB.shift ?_
  simp only [spec_ThreadOk.l1, Int.lt_irrefl, if_false]
  exact specThr_l2 n x h
 ·have c0 : (0 : Int) ≤ (i : Int) := by omega
  have c1 : (i : Int) < (x.f3.length : Int) := by omega
  have er : rd_T172 x.f3 (i : Int) = y := getD_get hx
  refine Ev.shift ?_
  simp only [spec_ThreadOk.l1, c0, c1, if_true, er, specIn_eq, Option.bind_some, decide_eq_true_eq]
  by_cases h3 : 0 ≤ y.f0 ∧ y.f0 ≤ 19
  ·exact Ev.pos h3 (Ev.neg (fun h5 => hn ⟨h3, h5⟩) (Ev.now _))
  ·exact Ev.neg h3 (Ev.now _)
 ·have c0 : (0 : Int) ≤ (i : Int) := by omega
  have c1 : (i : Int) < (x.f3.length : Int) := by omega
  have er : rd_T172 x.f3 (i : Int) = y := getD_get hx
  have := h.2.1
  refine Ev.shift ?_
  simp only [spec_ThreadOk.l1, c0, c1, if_true, er, specIn_eq, Option.bind_some, decide_eq_true_eq, succ64 hi (by omega)]
  exact Ev.pos hr.1 (Ev.pos hr.2 g)
theorem specThr_l0 (n : Int) (x : mT) (h : smT x) : EvB (fun k => spec_ThreadOk.l0 k n 0 x.f0 x.f1 x.f2 x.f3 x.f4) ((∀ y ∈ x.f0, opP y) ∧ (∀ y ∈ x.f3, pairP y) ∧ ∀ y ∈ x.f4, helpP n y) := by
 refine (EvB.each x.f0 (R := fun _ y => opP y) (Q := (∀ y ∈ x.f3, pairP y) ∧ ∀ y ∈ x.f4, helpP n y) (g := fun i k => spec_ThreadOk.l0 k n (i : Int) x.f0 x.f1 x.f2 x.f3 x.f4) (fun _ => ?_) (fun i y hx hi hp hn => ?_) (fun i y hx hi hp hr r g => ?_)).iff (by rw [each_mem])
 ·refine EvB.shift ?_
  simp only [spec_ThreadOk.l0, Int.lt_irrefl, if_false]
  exact specThr_l1 n x h
 ·have c0 : (0 : Int) ≤ (i : Int) := by omega
  have c1 : (i : Int) < (x.f0.length : Int) := by omega
  have er : rd_T69 x.f0 (i : Int) = y := getD_get hx
  refine Ev.shift ?_
  simp only [spec_ThreadOk.l0, c0, c1, if_true, er]
  exact Ev.bind (spec_OpOk_ev _ _ _) (Ev.neg hn (Ev.now _))
 ·have c0 : (0 : Int) ≤ (i : Int) := by omega
  have c1 : (i : Int) < (x.f0.length : Int) := by omega
  have er : rd_T69 x.f0 (i : Int) = y := getD_get hx
  have := h.1
  refine Ev.shift ?_
  simp only [spec_ThreadOk.l0, c0, c1, if_true, er, succ64 hi (by omega)]
  exact Ev.bind (spec_OpOk_ev _ _ _) (Ev.pos hr g)
theorem spec_ThreadOk_b (n : Int) (x : mT) (h : smT x) : EvB (fun k => spec_ThreadOk.f k x.f0 x.f1 x.f2 x.f3 x.f4 n) (thrP n x) := by
 have hb := h
 obtain ⟨s1, s2, s3⟩ := h
 have bad : Ev (fun k => spec_ThreadOk.j0 k n true x.f0 x.f1 x.f2 x.f3 x.f4) false := Ev.shift (by simp only [spec_ThreadOk.j0, if_true]; exact Ev.now _)
 have good : thrN x → EvB (fun k => spec_ThreadOk.j0 k n false x.f0 x.f1 x.f2 x.f3 x.f4) (thrP n x) := fun hn => by
  refine EvB.shift ?_
  simp only [spec_ThreadOk.j0, Bool.false_eq_true, if_false]
  exact (specThr_l0 n x hb).iff ⟨fun p => ⟨hn, p⟩, fun p => p.2⟩
 have hww : wrap64 ((x.f3.length : Int) + (x.f4.length : Int)) = (x.f3.length : Int) + (x.f4.length : Int) := w64 (by omega) (by omega)
 simp only [spec_ThreadOk.f, specIn_eq, Option.bind_some, decide_eq_true_eq, hww]
 refine EvB.ite (fun h1 => EvB.no bad (fun p => absurd p.1.1 (by omega))) (fun h1 => EvB.ite (fun h2 => ?_) (fun h2 => EvB.no bad (fun p => h2 p.1.2.1)))
 refine EvB.ite (fun h3 => EvB.ite (fun h4 => EvB.no bad (fun p => absurd (p.1.2.2.1 h3) (by omega))) (fun h4 => EvB.ite (fun h5 => EvB.no bad (fun p => absurd p.1.2.2.2.2.1 (by omega))) (fun h5 => ?_)))
  (fun h3 => EvB.ite (fun h4 => EvB.no bad (fun p => absurd (p.1.2.2.2.1 (by simpa using h3)) (by omega))) (fun h4 => EvB.ite (fun h5 => EvB.no bad (fun p => absurd p.1.2.2.2.2.1 (by omega))) (fun h5 => ?_)))
 ·by_cases h6 : (x.f4.length : Int) > 2
  ·simp only [h6, decide_true]
   exact EvB.no bad (fun p => absurd p.1.2.2.2.2.2 (by omega))
  ·simp only [h6, decide_false]
   exact good ⟨by omega, h2, fun _ => by omega, fun a => (by rw [h3] at a; cases a), by omega, by omega⟩
 ·by_cases h6 : (x.f4.length : Int) > 2
  ·simp only [h6, decide_true]
   exact EvB.no bad (fun p => absurd p.1.2.2.2.2.2 (by omega))
  ·simp only [h6, decide_false]
   exact good ⟨by omega, h2, fun a => absurd a h3, fun _ => by omega, by omega, by omega⟩
theorem implThr_ops (l : List mO) (hl : l.length ≤ 1048576) : EvB (fun k => impl_Op_178_179.f k l) (∃ y ∈ l, ¬ opP y) := by
 obtain ⟨r, q1, q2, q3⟩ := first_ev l (fun x => ¬ opP x) (g := fun i k => impl_Op_210_179.l0 k l (l.length : Int) (i : Int)) (by
  refine Ev.shift ?_
  simp only [impl_Op_210_179.l0, Int.lt_irrefl, if_false]
  exact Ev.now _) (fun i x hx hi hn => by
  have c0 : (0 : Int) ≤ (i : Int) := by omega
  have c1 : (i : Int) < (l.length : Int) := by omega
  have er : rd_T69 l (i : Int) = x := getD_get hx
  have e : opOk x.f0 x.f1 x.f2 = false := by unfold opP at hn; simpa using hn
  refine Ev.shift ?_
  simp only [impl_Op_210_179.l0, c0, c1, if_true, er, impl_ThreadOk_1.f]
  exact Ev.bind (Ev.bind ((impl_OpOk_ev _ _ _).to e) (Ev.now _)) (Ev.pos rfl (Ev.now _))) (fun i x hx hi hn r h => by
  have c0 : (0 : Int) ≤ (i : Int) := by omega
  have c1 : (i : Int) < (l.length : Int) := by omega
  have er : rd_T69 l (i : Int) = x := getD_get hx
  refine Ev.shift ?_
  simp only [impl_Op_210_179.l0, c0, c1, if_true, er, impl_ThreadOk_1.f, succ64 hi (by omega)]
  exact Ev.bind (Ev.bind ((impl_OpOk_ev _ _ _).to (Classical.not_not.mp hn)) (Ev.now _)) (Ev.neg (by decide) h))
 refine ⟨decide (r ≥ 0), ?_, by rw [decide_eq_true_iff]; exact q3⟩
 simp only [impl_Op_178_179.f, impl_Op_210_179.f]
 exact Ev.bind q1 (Ev.now _)
theorem pair_eq (x : mP) : EvB (fun _ => impl_ThreadOk_2.f x.f0 x.f1) (¬ pairP x) := by
 simp only [impl_ThreadOk_2.f, place_eq, wnum_eq, Option.bind_some, decide_eq_true_eq]
 refine EvB.ite (fun h1 => EvB.now ?_) (fun h1 => EvB.yes (Ev.now _) (fun p => h1 p.1))
 by_cases h2 : 0 ≤ x.f1 ∧ x.f1 ≤ 1000
 ·simp only [h2, and_self, decide_true, Bool.not_true]; exact iff_of_false (by decide) (fun a => a ⟨h1, h2⟩)
 ·simp only [h2, decide_false, Bool.not_false]; exact iff_of_true trivial (fun a => h2 a.2)
theorem help_eq (n : Int) (x : mH) (hn : 0 ≤ n ∧ n ≤ 1048576) : EvB (fun _ => impl_ThreadOk_3.f x.f0 x.f1 x.f2 x.f3 n) (¬ helpP n x) := by
 have hww : wrap64 (n - 1) = n - 1 := w64 (by omega) (by omega)
 simp only [impl_ThreadOk_3.f, implFrom_eq, hww, Option.bind_some, decide_eq_true_eq]
 refine EvB.ite (fun h1 => EvB.ite (fun h2 => EvB.ite (fun h3 => EvB.now ?_) (fun h3 => EvB.yes (Ev.now _) (fun p => h3 p.2.2.1))) (fun h2 => EvB.yes (Ev.now _) (fun p => h2 p.2.1))) (fun h1 => EvB.yes (Ev.now _) (fun p => h1 (by have := p.1; omega)))
 by_cases h4 : 0 ≤ x.f3 ∧ x.f3 ≤ 20
 ·simp only [h4, and_self, decide_true, Bool.not_true]; exact iff_of_false (by decide) (fun a => a ⟨by omega, h2, h3, h4⟩)
 ·simp only [h4, decide_false, Bool.not_false]; exact iff_of_true trivial (fun a => h4 a.2.2.2)
theorem implThr_pairs (l : List mP) (hl : l.length ≤ 1048576) : EvB (fun k => impl_Pair_180_181.f k l) (∃ y ∈ l, ¬ pairP y) := by
 obtain ⟨r, q1, q2, q3⟩ := first_ev l (fun x => ¬ pairP x) (g := fun i k => impl_Pair_211_181.l0 k l (l.length : Int) (i : Int)) (by
  refine Ev.shift ?_
  simp only [impl_Pair_211_181.l0, Int.lt_irrefl, if_false]
  exact Ev.now _) (fun i x hx hi hn => by
  have c0 : (0 : Int) ≤ (i : Int) := by omega
  have c1 : (i : Int) < (l.length : Int) := by omega
  have er : rd_T172 l (i : Int) = x := getD_get hx
  refine Ev.shift ?_
  simp only [impl_Pair_211_181.l0, c0, c1, if_true, er]
  exact Ev.bind ((pair_eq x).val hn) (Ev.pos rfl (Ev.now _))) (fun i x hx hi hn r h => by
  have c0 : (0 : Int) ≤ (i : Int) := by omega
  have c1 : (i : Int) < (l.length : Int) := by omega
  have er : rd_T172 l (i : Int) = x := getD_get hx
  refine Ev.shift ?_
  simp only [impl_Pair_211_181.l0, c0, c1, if_true, er, succ64 hi (by omega)]
  exact Ev.bind ((pair_eq x).nval hn) (Ev.neg (by decide) h))
 refine ⟨decide (r ≥ 0), ?_, by rw [decide_eq_true_iff]; exact q3⟩
 simp only [impl_Pair_180_181.f, impl_Pair_211_181.f]
 exact Ev.bind q1 (Ev.now _)
theorem implThr_helps (n : Int) (hn : 0 ≤ n ∧ n ≤ 1048576) (l : List mH) (hl : l.length ≤ 1048576) : EvB (fun k => impl_Help_184_185.f k l n) (∃ y ∈ l, ¬ helpP n y) := by
 obtain ⟨r, q1, q2, q3⟩ := first_ev l (fun x => ¬ helpP n x) (g := fun i k => impl_Help_212_185.l0 k l (l.length : Int) (i : Int) n) (by
  refine Ev.shift ?_
  simp only [impl_Help_212_185.l0, Int.lt_irrefl, if_false]
  exact Ev.now _) (fun i x hx hi hb => by
  have c0 : (0 : Int) ≤ (i : Int) := by omega
  have c1 : (i : Int) < (l.length : Int) := by omega
  have er : rd_T174 l (i : Int) = x := getD_get hx
  refine Ev.shift ?_
  simp only [impl_Help_212_185.l0, c0, c1, if_true, er]
  exact Ev.bind ((help_eq n x hn).val hb) (Ev.pos rfl (Ev.now _))) (fun i x hx hi hb r h => by
  have c0 : (0 : Int) ≤ (i : Int) := by omega
  have c1 : (i : Int) < (l.length : Int) := by omega
  have er : rd_T174 l (i : Int) = x := getD_get hx
  refine Ev.shift ?_
  simp only [impl_Help_212_185.l0, c0, c1, if_true, er, succ64 hi (by omega)]
  exact Ev.bind ((help_eq n x hn).nval hb) (Ev.neg (by decide) h))
 refine ⟨decide (r ≥ 0), ?_, by rw [decide_eq_true_iff]; exact q3⟩
 simp only [impl_Help_184_185.f, impl_Help_212_185.f]
 exact Ev.bind q1 (Ev.now _)
theorem all_not {τ : Type} {l : List τ} {R : τ → Prop} (h : ¬ ∃ x ∈ l, ¬ R x) : ∀ x ∈ l, R x := fun x hx => Classical.byContradiction fun hn => h ⟨x, hx, hn⟩
theorem impl_ThreadOk_b (n : Int) (hn : 0 ≤ n ∧ n ≤ 1048576) (x : mT) (h : smT x) : EvB (fun k => impl_ThreadOk.f k x.f0 x.f1 x.f2 x.f3 x.f4 n) (thrP n x) := by
 obtain ⟨s1, s2, s3⟩ := h
 have bad : Ev (fun k => impl_ThreadOk.j0 k true x.f0 x.f1 x.f2 x.f3 x.f4 n) false := Ev.shift (by simp only [impl_ThreadOk.j0, if_true]; exact Ev.now _)
 have hww : wrap64 ((x.f3.length : Int) + (x.f4.length : Int)) = (x.f3.length : Int) + (x.f4.length : Int) := w64 (by omega) (by omega)
 have good : thrN x → (∀ y ∈ x.f0, opP y) → EvB (fun k => impl_ThreadOk.j1 k false x.f0 x.f1 x.f2 x.f3 x.f4 n) (thrP n x) := fun hn1 hop => by
  refine EvB.shift ?_
  simp only [impl_ThreadOk.j1, Bool.false_eq_true, if_false]
  refine EvB.bind (implThr_pairs x.f3 s2) (fun hp => EvB.pos rfl (EvB.no (Ev.now _) (fun p => hp.elim fun y hy => hy.2 (p.2.2.1 y hy.1)))) (fun hp => EvB.neg (by decide) ?_)
  refine EvB.bind (implThr_helps n hn x.f4 s3) (fun hq => EvB.no (Ev.now _) (fun p => hq.elim fun y hy => hy.2 (p.2.2.2 y hy.1))) (fun hq => EvB.yes (Ev.now _) ⟨hn1, hop, all_not hp, all_not hq⟩)
 have mid : x.f0.length ≤ 8 → (0 ≤ x.f1 ∧ x.f1 ≤ x.f0.length) → (x.f2 = true → x.f1 < x.f0.length) → x.f3.length ≤ 12 → x.f4.length ≤ 2 → (∀ y ∈ x.f0, opP y) → EvB (fun k => impl_ThreadOk.j0 k false x.f0 x.f1 x.f2 x.f3 x.f4 n) (thrP n x) := fun a1 a2 a3 a4 a5 hop => by
  refine EvB.shift ?_
  simp only [impl_ThreadOk.j0, Bool.false_eq_true, if_false, hww]
  refine EvB.ite (fun b1 => good ⟨a1, a2, a3, fun a => (by rw [b1] at a; cases a), a4, a5⟩ hop) (fun b1 => ?_)
  by_cases b2 : (x.f3.length : Int) + (x.f4.length : Int) > 0
  ·simp only [b2, decide_true]
   refine EvB.no (Ev.shift (by simp only [impl_ThreadOk.j1, if_true]; exact Ev.now _)) (fun p => absurd (p.1.2.2.2.1 (by simpa using b1)) (by omega))
  ·simp only [b2, decide_false]
   exact good ⟨a1, a2, a3, fun _ => by omega, a4, a5⟩ hop
 simp only [impl_ThreadOk.f, implFrom_eq, Option.bind_some, decide_eq_true_eq]
 refine EvB.ite (fun h1 => EvB.no bad (fun p => absurd p.1.1 (by omega))) (fun h1 => ?_)
 refine EvB.bind (implThr_ops x.f0 s1) (fun ho => EvB.pos rfl (EvB.no bad (fun p => ho.elim fun y hy => hy.2 (p.2.1 y hy.1)))) (fun ho => EvB.neg (by decide) ?_)
 have ho' := all_not ho
 refine EvB.ite (fun h2 => ?_) (fun h2 => EvB.no bad (fun p => h2 p.1.2.1))
 refine EvB.ite (fun h3 => EvB.ite (fun h4 => EvB.no bad (fun p => absurd (p.1.2.2.1 h3) (by omega))) (fun h4 => EvB.ite (fun h5 => EvB.no bad (fun p => absurd p.1.2.2.2.2.1 (by omega))) (fun h5 => ?_)))
  (fun h3 => EvB.ite (fun h5 => EvB.no bad (fun p => absurd p.1.2.2.2.2.1 (by omega))) (fun h5 => ?_))
 ·by_cases h6 : (x.f4.length : Int) > 2
  ·simp only [h6, decide_true]
   exact EvB.no bad (fun p => absurd p.1.2.2.2.2.2 (by omega))
  ·simp only [h6, decide_false]
   exact mid (by omega) h2 (fun _ => by omega) (by omega) (by omega) ho'
 ·by_cases h6 : (x.f4.length : Int) > 2
  ·simp only [h6, decide_true]
   exact EvB.no bad (fun p => absurd p.1.2.2.2.2.2 (by omega))
  ·simp only [h6, decide_false]
   exact mid (by omega) h2 (fun a => absurd a h3) (by omega) (by omega) ho'
section
variable {α β : Type}
def Got (o : Option α) (P : α → Prop) : Prop := ∃ a, o = some a ∧ P a
theorem Got.bind {o : Option α} {f : α → Option β} {P : α → Prop} {Q : β → Prop} (h : Got o P) (hf : ∀ a, P a → Got (f a) Q) : Got (o.bind f) Q := by
 obtain ⟨a, rfl, hp⟩ := h
 exact hf a hp
theorem Got.now {a : α} {P : α → Prop} (h : P a) : Got (some a) P := ⟨a, rfl, h⟩
theorem Got.pos {p : Prop} [Decidable p] {a b : Option α} {P : α → Prop} (hp : p) (h : Got a P) : Got (if p then a else b) P := by rw [if_pos hp]; exact h
theorem Got.neg {p : Prop} [Decidable p] {a b : Option α} {P : α → Prop} (hp : ¬ p) (h : Got b P) : Got (if p then a else b) P := by rw [if_neg hp]; exact h
theorem Got.ite {p : Prop} [Decidable p] {a b : Option α} {P : α → Prop} (h1 : p → Got a P) (h2 : ¬ p → Got b P) : Got (if p then a else b) P := by
 by_cases h : p
 ·exact Got.pos h (h1 h)
 ·exact Got.neg h (h2 h)
theorem Got.mono {o : Option α} {P Q : α → Prop} (h : Got o P) (f : ∀ a, P a → Q a) : Got o Q := by obtain ⟨a, h1, h2⟩ := h; exact ⟨a, h1, f a h2⟩
def EvG (g : Nat → Option α) (P : α → Prop) : Prop := ∃ a, Ev g a ∧ P a
theorem EvG.now {a : α} {P : α → Prop} (h : P a) : EvG (fun _ => some a) P := ⟨a, Ev.now _, h⟩
theorem EvG.bind {g : Nat → Option α} {f : α → Nat → Option β} {P : α → Prop} {Q : β → Prop} (h : EvG g P) (hf : ∀ a, P a → EvG (f a) Q) : EvG (fun k => (g k).bind fun a => f a k) Q := by
 obtain ⟨a, h1, hp⟩ := h
 obtain ⟨b, h2, hq⟩ := hf a hp
 exact ⟨b, Ev.bind h1 h2, hq⟩
theorem EvG.shift {g : Nat → Option α} {P : α → Prop} (h : EvG (fun k => g (k + 1)) P) : EvG g P := by obtain ⟨a, h1, hp⟩ := h; exact ⟨a, Ev.shift h1, hp⟩
theorem EvG.pos {p : Prop} [Decidable p] {a b : Nat → Option α} {P : α → Prop} (hp : p) (h : EvG a P) : EvG (fun k => if p then a k else b k) P := by simp only [hp, if_true]; exact h
theorem EvG.neg {p : Prop} [Decidable p] {a b : Nat → Option α} {P : α → Prop} (hp : ¬ p) (h : EvG b P) : EvG (fun k => if p then a k else b k) P := by simp only [hp, if_false]; exact h
theorem EvG.ite {p : Prop} [Decidable p] {a b : Nat → Option α} {P : α → Prop} (h1 : p → EvG a P) (h2 : ¬ p → EvG b P) : EvG (fun k => if p then a k else b k) P := by
 by_cases h : p
 ·exact EvG.pos h (h1 h)
 ·exact EvG.neg h (h2 h)
theorem EvG.mono {g : Nat → Option α} {P Q : α → Prop} (h : EvG g P) (f : ∀ a, P a → Q a) : EvG g Q := by obtain ⟨a, h1, h2⟩ := h; exact ⟨a, h1, f a h2⟩
end
def dup (h : List Int) (i : Nat) : Prop := ∃ j, j < i ∧ rd h (j : Int) = rd h (i : Int)
def oneOk (h : List Int) (i : Nat) : Prop := rd h (i : Int) = 0 ∨ (1 ≤ rd h (i : Int) ∧ rd h (i : Int) ≤ 6 ∧ ¬ dup h i)
def allOk (h : List Int) (i : Nat) : Prop := ∀ j, i ≤ j → j < h.length → oneOk h j
theorem allOk_step {h : List Int} {i : Nat} (hi : i < h.length) : allOk h i ↔ (oneOk h i ∧ allOk h (i + 1)) := by
 constructor
 ·intro a; exact ⟨a i (Nat.le_refl _) hi, fun j h1 h2 => a j (by omega) h2⟩
 ·intro ⟨a, b⟩ j h1 h2
  by_cases e : j = i
  ·rw [e]; exact a
  ·exact b j (by omega) h2
noncomputable def okB (h : List Int) (i : Nat) (s : Int) : Bool := @decide (allOk h i ∧ h.length = 4 ∧ 0 ≤ s ∧ s ≤ 5) (Classical.propDecidable _)
theorem okB_iff {h : List Int} {i : Nat} {s : Int} : okB h i s = true ↔ (allOk h i ∧ h.length = 4 ∧ 0 ≤ s ∧ s ≤ 5) := by
 unfold okB
 exact @decide_eq_true_iff _ (Classical.propDecidable _)
theorem okB_false {h : List Int} {i : Nat} {s : Int} (hi : i < h.length) (hn : ¬ oneOk h i) : okB h i s = false := by
 rw [Bool.eq_false_iff]
 intro a
 exact hn ((allOk_step hi).mp (okB_iff.mp a).1).1
theorem okB_next {h : List Int} {i : Nat} {s : Int} (hi : i < h.length) (hy : oneOk h i) : okB h i s = okB h (i + 1) s := by
 rw [Bool.eq_iff_iff, okB_iff, okB_iff, allOk_step hi]
 exact ⟨fun a => ⟨a.1.2, a.2⟩, fun a => ⟨⟨hy, a.1⟩, a.2⟩⟩
theorem okB_end (h : List Int) (s : Int) : okB h h.length s = decide (h.length = 4 ∧ 0 ≤ s ∧ s ≤ 5) := by
 rw [Bool.eq_iff_iff, okB_iff, decide_eq_true_iff]
 have : allOk h h.length := fun j h1 h2 => absurd h2 (by omega)
 exact ⟨fun a => a.2, fun a => ⟨this, a⟩⟩
theorem key_ev (h : List Int) (hl : h.length ≤ 9223372036854775807) (s v : Int) : ∀ p : Nat, p ≤ h.length → ∃ r : Int, Ev (fun k => spec_KeyOf.l0 k v (p : Int) h s) r ∧
  ((r = -1 ∧ ∀ j : Nat, p ≤ j → j < h.length → rd h (j : Int) ≠ v) ∨ ∃ q : Nat, r = (q : Int) ∧ p ≤ q ∧ q < h.length ∧ rd h (q : Int) = v ∧ ∀ j : Nat, p ≤ j → j < q → rd h (j : Int) ≠ v) := by
 refine back ?_ fun p hp ih => ?_
 ·refine ⟨-1, Ev.shift ?_, Or.inl ⟨rfl, fun j h1 h2 => absurd h2 (by omega)⟩⟩
  simp only [spec_KeyOf.l0, Int.lt_irrefl, if_false]
  exact Ev.now _
 ·have c0 : (0 : Int) ≤ (p : Int) := by omega
  have c1 : (p : Int) < (h.length : Int) := by omega
  by_cases e : rd h (p : Int) = v
  ·refine ⟨(p : Int), Ev.shift ?_, Or.inr ⟨p, rfl, Nat.le_refl _, hp, e, fun j h1 h2 => absurd h2 (by omega)⟩⟩
   simp only [spec_KeyOf.l0, c0, c1, e, if_true]
   exact Ev.now _
  ·obtain ⟨r, h1, h2⟩ := ih
   refine ⟨r, Ev.shift ?_, ?_⟩
   ·simp only [spec_KeyOf.l0, c0, c1, e, if_true, if_false, succ64 hp hl]
    exact h1
   ·rcases h2 with ⟨a, b⟩ | ⟨q, a, b, c, d, f⟩
    ·refine Or.inl ⟨a, fun j h3 h4 => ?_⟩
     by_cases ej : j = p
     ·rw [ej]; exact e
     ·exact b j (by omega) h4
    ·refine Or.inr ⟨q, a, by omega, c, d, fun j h3 h4 => ?_⟩
     by_cases ej : j = p
     ·rw [ej]; exact e
     ·exact f j (by omega) h4
theorem index_ev (x : List Int) (hl : x.length ≤ 9223372036854775807) (v : Int) : ∀ p : Nat, p ≤ x.length → ∃ r : Int, Ev (fun k => slices_Index_int_int.l0 k x v (x.length : Int) (p : Int)) r ∧
  (r ≥ 0 ↔ ∃ j : Nat, p ≤ j ∧ j < x.length ∧ rd x (j : Int) = v) := by
 refine back ?_ fun p hp ih => ?_
 ·refine ⟨-1, Ev.shift ?_, ?_⟩
  ·simp only [slices_Index_int_int.l0, Int.lt_irrefl, if_false]
   exact Ev.now _
  ·constructor
   ·intro h; omega
   ·intro ⟨j, h1, h2, _⟩; omega
 ·have c0 : (0 : Int) ≤ (p : Int) := by omega
  have c1 : (p : Int) < (x.length : Int) := by omega
  by_cases e : v = rd x (p : Int)
  ·refine ⟨(p : Int), Ev.shift ?_, ?_⟩
   ·simp only [slices_Index_int_int.l0, c0, c1, if_true]
    refine Ev.pos e (Ev.now _)
   ·exact ⟨fun _ => ⟨p, Nat.le_refl _, hp, e.symm⟩, fun _ => c0⟩
  ·obtain ⟨r, h1, h2⟩ := ih
   refine ⟨r, Ev.shift ?_, ?_⟩
   ·simp only [slices_Index_int_int.l0, c0, c1, if_true, succ64 hp hl]
    refine Ev.neg e h1
   ·rw [h2]
    constructor
    ·intro ⟨j, h3, h4, h5⟩; exact ⟨j, by omega, h4, h5⟩
    ·intro ⟨j, h3, h4, h5⟩
     refine ⟨j, ?_, h4, h5⟩
     by_cases ej : j = p
     ·rw [ej] at h5; exact absurd h5.symm e
     ·omega
theorem rd_take (h : List Int) {i j : Nat} (hj : j < i) (hl : j < h.length) : rd (h.take i) (j : Int) = rd h (j : Int) := by
 have h1 : (h.take i)[j]? = some h[j] := by rw [List.getElem?_take, if_pos hj]; exact List.getElem?_eq_getElem hl
 rw [rd_get h1, rd_get (List.getElem?_eq_getElem hl)]
theorem spec_RowsOk_ev (h : List Int) (s : Int) (hl : h.length ≤ 1048576) : Ev (fun k => spec_RowsOk.f k h s) (okB h 0 s) := by
 simp only [spec_RowsOk.f]
 refine back (n := h.length) (Q := fun i => Ev (fun k => spec_RowsOk.l0 k (i : Int) h s) (okB h i s)) ?_ (fun i hi ih => ?_) 0 (Nat.zero_le _)
 ·refine Ev.shift ?_
  rw [okB_end]
  simp only [spec_RowsOk.l0, Int.lt_irrefl, if_false, spec_l1In.f]
  by_cases h4 : h.length = 4
  ·have c : (h.length : Int) = 4 := by omega
   simp only [c, h4, if_true, true_and]
   by_cases h0 : s ≥ 0
   ·simp only [h0, if_true, Option.bind_some]
    exact Ev.val (by first | (simp; done) | (simp; omega))
   ·simp only [h0, if_false, Option.bind_some]
    exact Ev.val (by first | (simp; done) | (simp; omega))
  ·have c : ¬ (h.length : Int) = 4 := by omega
   simp only [c, h4, if_false, false_and, decide_false]
   exact Ev.now _
 ·have c0 : (0 : Int) ≤ (i : Int) := by omega
  have c1 : (i : Int) < (h.length : Int) := by omega
  refine Ev.shift ?_
  simp only [spec_RowsOk.l0, c0, c1, if_true, succ64 hi (by omega), spec_ValOk.f, spec_l1In.f]
  by_cases hz : rd h (i : Int) = 0
  ·rw [okB_next hi (Or.inl hz)]
   simp only [hz, if_true]
   exact ih
  ·simp only [hz, if_false]
   by_cases h1 : rd h (i : Int) ≥ 1
   ·by_cases h6 : rd h (i : Int) ≤ 6
    ·simp only [h1, h6, if_true, decide_true, Option.bind_some]
     obtain ⟨r, e1, e2⟩ := key_ev h (by omega) s (rd h (i : Int)) 0 (Nat.zero_le _)
     have e1' : Ev (fun k => spec_KeyOf.f k h s (rd h (i : Int))) r := e1
     refine Ev.bind e1' ?_
     by_cases hr : r = (i : Int)
     ·have hd : ¬ dup h i := by
       rintro ⟨j, hj1, hj2⟩
       rcases e2 with ⟨a, b⟩ | ⟨q, a, b, c, d, f⟩
       ·exact b j (Nat.zero_le _) (by omega) hj2
       ·exact f j (Nat.zero_le _) (by omega) hj2
      rw [okB_next hi (Or.inr ⟨h1, h6, hd⟩)]
      simp only [hr, if_true]
      exact ih
     ·have hd : dup h i := by
       rcases e2 with ⟨a, b⟩ | ⟨q, a, b, c, d, f⟩
       ·exact absurd rfl (b i (Nat.zero_le _) hi)
       ·refine ⟨q, ?_, d⟩
        apply Classical.byContradiction
        intro hn
        by_cases hq : i < q
        ·exact f i (Nat.zero_le _) hq rfl
        ·exact hr (by omega)
      rw [okB_false hi (fun a => a.elim hz (fun a => a.2.2 hd))]
      simp only [hr, if_false]
      exact Ev.now _
    ·rw [okB_false hi (fun a => a.elim hz (fun a => h6 a.2.1))]
     simp only [h1, h6, if_true, decide_false, Option.bind_some, Bool.false_eq_true, if_false]
     exact Ev.now _
   ·rw [okB_false hi (fun a => a.elim hz (fun a => h1 a.1))]
    simp only [h1, Option.bind_some, Bool.false_eq_true, if_false]
    exact Ev.now _
theorem impl_RowsOk_ev (h : List Int) (s : Int) (hl : h.length ≤ 1048576) : Ev (fun k => impl_RowsOk.f k h s) (okB h 0 s) := by
 simp only [impl_RowsOk.f]
 refine back (n := h.length) (Q := fun i => Ev (fun k => impl_RowsOk.l0 k h (h.length : Int) (i : Int) h s) (okB h i s)) ?_ (fun i hi ih => ?_) 0 (Nat.zero_le _)
 ·refine Ev.shift ?_
  rw [okB_end]
  simp only [impl_RowsOk.l0, Int.lt_irrefl, if_false, impl_from.f]
  by_cases h4 : h.length = 4
  ·have c : (h.length : Int) = 4 := by omega
   simp only [c, h4, if_true, true_and]
   by_cases h0 : s ≥ 0
   ·simp only [h0, if_true, Option.bind_some]
    exact Ev.val (by first | (simp; done) | (simp; omega))
   ·simp only [h0, if_false, Option.bind_some]
    exact Ev.val (by first | (simp; done) | (simp; omega))
  ·have c : ¬ (h.length : Int) = 4 := by omega
   simp only [c, h4, if_false, false_and, decide_false]
   exact Ev.now _
 ·have c0 : (0 : Int) ≤ (i : Int) := by omega
  have c1 : (i : Int) < (h.length : Int) := by omega
  have c2 : (i : Int) ≤ (h.length : Int) := by omega
  refine Ev.shift ?_
  simp only [impl_RowsOk.l0, c0, c1, c2, if_true, succ64 hi (by omega), impl_ValOk.f, impl_from.f, Int.toNat_natCast]
  by_cases hz : rd h (i : Int) = 0
  ·rw [okB_next hi (Or.inl hz)]
   simp only [hz, if_true]
   exact ih
  ·simp only [hz, if_false]
   by_cases h1 : rd h (i : Int) ≥ 1
   ·by_cases h6 : rd h (i : Int) ≤ 6
    ·simp only [h1, h6, if_true, decide_true, Option.bind_some]
     obtain ⟨r, e1, e2⟩ := index_ev (h.take i) (by rw [List.length_take]; omega) (rd h (i : Int)) 0 (Nat.zero_le _)
     have e1' : Ev (fun k => slices_Contains_int_int.f k (h.take i) (rd h (i : Int))) (decide (r ≥ 0)) := by
      simp only [slices_Contains_int_int.f]
      exact Ev.bind (show Ev (fun k => slices_Index_int_int.f k (h.take i) (rd h (i : Int))) r from e1) (Ev.now _)
     refine Ev.bind e1' ?_
     have hd : r ≥ 0 ↔ dup h i := by
      rw [e2]
      constructor
      ·intro ⟨j, _, h3, h4⟩
       rw [List.length_take] at h3
       exact ⟨j, by omega, by rw [rd_take h (by omega) (by omega)] at h4; exact h4⟩
      ·intro ⟨j, h3, h4⟩
       exact ⟨j, Nat.zero_le _, by rw [List.length_take]; omega, by rw [rd_take h h3 (by omega)]; exact h4⟩
     by_cases hr : r ≥ 0
     ·rw [okB_false hi (fun a => a.elim hz (fun a => a.2.2 (hd.mp hr)))]
      simp only [hr, decide_true, if_true]
      exact Ev.now _
     ·rw [okB_next hi (Or.inr ⟨h1, h6, fun a => hr (hd.mpr a)⟩)]
      simp only [hr, decide_false, Bool.false_eq_true, if_false]
      exact ih
    ·rw [okB_false hi (fun a => a.elim hz (fun a => h6 a.2.1))]
     simp only [h1, h6, if_true, decide_false, Option.bind_some, Bool.false_eq_true, if_false]
     exact Ev.now _
   ·rw [okB_false hi (fun a => a.elim hz (fun a => h1 a.1))]
    simp only [h1, Option.bind_some, Bool.false_eq_true, if_false]
    exact Ev.now _
theorem okB_elim {h : List Int} {s : Int} (a : okB h 0 s = true) : h.length = 4 ∧ 0 ≤ s ∧ s ≤ 5 ∧ ∀ i : Nat, i < 4 → rd h (i : Int) = 0 ∨ (1 ≤ rd h (i : Int) ∧ rd h (i : Int) ≤ 6) := by
 have b := okB_iff.mp a
 refine ⟨b.2.1, b.2.2.1, b.2.2.2, fun i hi => ?_⟩
 rcases b.1 i (Nat.zero_le _) (by omega) with c | c
 ·exact Or.inl c
 ·exact Or.inr ⟨c.1, c.2.1⟩
end Go.Proofs.YtmljebgideecjaaGreat.P2
