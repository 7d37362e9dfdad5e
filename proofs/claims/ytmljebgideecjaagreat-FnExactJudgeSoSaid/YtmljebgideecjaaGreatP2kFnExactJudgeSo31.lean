/- A part of the proof of the law FnExactJudgeSo: texts of this seat, merged (words, printed functions of the program, plain lemmas). Conditions: none of its own. -/
import Derived.Test.YtmljebgideecjaaGreatP2kFnExactJudgeSo1
import Derived.Test.YtmljebgideecjaaGreatP2kFnExactJudgeSo13
import Derived.Test.YtmljebgideecjaaGreatP2kFnExactJudgeSo14
import Derived.Test.YtmljebgideecjaaGreatP2kFnExactJudgeSo15
import Derived.Test.YtmljebgideecjaaGreatP2kFnExactJudgeSo16
import Derived.Test.YtmljebgideecjaaGreatP2kFnExactJudgeSo17
import Derived.Test.YtmljebgideecjaaGreatP2kFnExactJudgeSo21
import Derived.Test.YtmljebgideecjaaGreatP2kFnExactJudgeSo22
import Derived.Test.YtmljebgideecjaaGreatP2kFnExactJudgeSo23
import Derived.Test.YtmljebgideecjaaGreatP2kFnExactJudgeSo24
import Derived.Test.YtmljebgideecjaaGreatP2kFnExactJudgeSo25
import Derived.Test.YtmljebgideecjaaGreatP2kFnExactJudgeSo26
import Derived.Test.YtmljebgideecjaaGreatP2kFnExactJudgeSo28
import Derived.Test.YtmljebgideecjaaGreatP2kFnExactJudgeSo30
set_option linter.unusedSimpArgs false
set_option linter.unusedVariables false
set_option maxHeartbeats 8000000
set_option maxRecDepth 100000
namespace Go.Proofs.YtmljebgideecjaaGreat.P2
open Go.RowKit Go.Proofs.YtmljebgideecjaaGreatW.PrintWords Go.Proofs.YtmljebgideecjaaGreatW.PrintLast Go.Proofs.YtmljebgideecjaaGreatZ
abbrev mC := S73
def callP (n : Int) (tm : Int) (x : mC) : Prop := (0 ≤ x.f0 ∧ x.f0 ≤ n - 1) ∧ opP x.f1 ∧ (0 ≤ x.f2 ∧ x.f2 ≤ tm) ∧ (x.f3 = -1 ∨ (x.f2 ≤ x.f3 ∧ x.f3 ≤ tm)) ∧ (x.f4 = -1 ∨ (x.f2 ≤ x.f4 ∧ x.f4 ≤ tm))
theorem spec_l9Call_b (w : List mW) (d : List mD) (t : List mT) (tm : Int) (c : List mC) (p q : List Int) (s : Int) (x : mC) (ht : t.length ≤ 1048576) :
  EvB (fun k => spec_l9Call.f k w d t tm c p q s x.f0 x.f1.f0 x.f1.f1 x.f1.f2 x.f2 x.f3 x.f4 x.f5.f0 x.f5.f1) (callP t.length tm x) := by
 have hww : wrap64 ((t.length : Int) - 1) = (t.length : Int) - 1 := w64 (by omega) (by omega)
 simp only [spec_l9Call.f, specIn_eq, Option.bind_some, decide_eq_true_eq, hww]
 refine EvB.ite (fun h1 => ?_) (fun h1 => EvB.no (Ev.now _) (fun p => h1 p.1))
 refine EvB.at (spec_OpOk_ev _ _ _) ?_
 refine EvB.ite (fun h2 => ?_) (fun h2 => EvB.no (Ev.now _) (fun p => h2 p.2.1))
 refine EvB.ite (fun h3 => ?_) (fun h3 => EvB.no (Ev.now _) (fun p => h3 p.2.2.1))
 refine EvB.ite (fun h4 => EvB.ite (fun h5 => EvB.yes (Ev.now _) ⟨h1, h2, h3, .inl h4, .inl h5⟩) (fun h5 => EvB.now ?_)) (fun h4 => EvB.ite (fun h5 => EvB.ite (fun h6 => EvB.yes (Ev.now _) ⟨h1, h2, h3, .inr h5, .inl h6⟩) (fun h6 => EvB.now ?_)) (fun h5 => EvB.no (Ev.now _) (fun p => p.2.2.2.1.elim h4 h5)))
 ·rw [decide_eq_true_iff]
  exact ⟨fun a => ⟨h1, h2, h3, .inl h4, .inr a⟩, fun a => a.2.2.2.2.elim (fun b => absurd b h5) id⟩
 ·rw [decide_eq_true_iff]
  exact ⟨fun a => ⟨h1, h2, h3, .inr h5, .inr a⟩, fun a => a.2.2.2.2.elim (fun b => absurd b h6) id⟩
def cntC (R : mC → Bool) (c : List mC) : Nat → Nat
 | 0 => 0
 | i + 1 => cntC R c i + (if R (rd_T73 c (i : Int)) = true then 1 else 0)
theorem cntC_le (R : mC → Bool) (c : List mC) : ∀ i, cntC R c i ≤ i
 | 0 => Nat.le_refl _
 | i + 1 => by
  have := cntC_le R c i
  simp only [cntC]
  split <;> omega
def soC (x : mC) : Bool := decide (x.f3 ≥ 0)
def ordP (c : List mC) (o : List Int) (i : Nat) : Prop := (0 ≤ rd o (i : Int) ∧ rd o (i : Int) ≤ (c.length : Int) - 1) ∧ ¬ (rd_T73 c (rd o (i : Int))).f3 < 0 ∧ ¬ dup o i ∧ (0 < i → ¬ (rd_T73 c (rd o ((i : Int) - 1))).f3 > (rd_T73 c (rd o (i : Int))).f3)
def ordersP (c : List mC) (o : List Int) : Prop := (∀ i, i < o.length → ordP c o i) ∧ cntC soC c c.length = o.length
theorem spec_l9Calls_l2 (w : List mW) (d : List mD) (t : List mT) (tm : Int) (c : List mC) (o q : List Int) (s : Int) (x3 : Int) (i : Nat) (hi : i < o.length) (ho : o.length ≤ 1048576) (r : Bool)
  (h : ¬ dup o i → Ev (fun k => spec_l9Calls.l1 k x3 ((i + 1 : Nat) : Int) w d t tm c o q s) r) (h' : dup o i → r = false) : Ev (fun k => spec_l9Calls.l2 k x3 (i : Int) (rd o (i : Int)) 0 w d t tm c o q s) r := by
 have key : ∀ m j, j + m = i → (∀ a, a < j → rd o (a : Int) ≠ rd o (i : Int)) → Ev (fun k => spec_l9Calls.l2 k x3 (i : Int) (rd o (i : Int)) (j : Int) w d t tm c o q s) r := by
  intro m
  induction m with
  | zero =>
   intro j hj hp
   obtain rfl : j = i := by omega
   refine Ev.shift ?_
   simp only [spec_l9Calls.l2, Int.lt_irrefl, if_false, succ64 hi (by omega)]
   exact h fun ⟨a, ha, e⟩ => hp a ha e
  | succ m ih =>
   intro j hj hp
   have c0 : (0 : Int) ≤ (j : Int) := by omega
   have c1 : (j : Int) < (i : Int) := by omega
   have c2 : (j : Int) < (o.length : Int) := by omega
   refine Ev.shift ?_
   simp only [spec_l9Calls.l2, c0, c1, c2, if_true, succ64 (show j < o.length by omega) (by omega)]
   by_cases e : rd o (j : Int) = rd o (i : Int)
   ·exact Ev.pos e (Ev.val (h' ⟨j, by omega, e⟩).symm)
   ·refine Ev.neg e (ih (j + 1) (by omega) (fun a ha => ?_))
    rcases Nat.lt_succ_iff_lt_or_eq.mp ha with b | b
    ·exact hp a b
    ·rw [b]; exact e
 exact key i 0 (by omega) (fun a ha => absurd ha (Nat.not_lt_zero _))
theorem spec_orders_b (w : List mW) (d : List mD) (t : List mT) (tm : Int) (c : List mC) (o q : List Int) (s : Int) (ho : o.length ≤ 1048576) (hc : c.length ≤ 1048576) (z : Nat) :
  EvB (fun k => spec_l9Calls.l1 k (z : Int) 0 w d t tm c o q s) ((∀ i, i < o.length → ordP c o i) ∧ c.length ≤ 40 ∧ z = o.length) := by
 have hww : wrap64 ((c.length : Int) - 1) = (c.length : Int) - 1 := w64 (by omega) (by omega)
 refine EvB.loop (n := o.length) (P := ordP c o) (g := fun i k => spec_l9Calls.l1 k (z : Int) (i : Int) w d t tm c o q s) (fun _ => ?_) (fun i hi hp hn => ?_) (fun i hi hp hr r h => ?_)
 ·refine EvB.shift ?_
  simp only [spec_l9Calls.l1, Int.lt_irrefl, if_false]
  refine EvB.ite (fun h1 => EvB.now ?_) (fun h1 => EvB.no (Ev.now _) (fun p => absurd p.1 (by omega)))
  rw [beq_iff_eq]; omega
 ·have c0 : (0 : Int) ≤ (i : Int) := by omega
  have c1 : (i : Int) < (o.length : Int) := by omega
  refine Ev.shift ?_
  simp only [spec_l9Calls.l1, c0, c1, if_true, specIn_eq, Option.bind_some, decide_eq_true_eq, hww]
  have bad : Ev (fun k => spec_l9Calls.j2 k (z : Int) (i : Int) (rd o (i : Int)) true w d t tm c o q s) false := Ev.shift (by simp only [spec_l9Calls.j2, if_true]; exact Ev.now _)
  by_cases h1 : 0 ≤ rd o (i : Int) ∧ rd o (i : Int) ≤ (c.length : Int) - 1
  ·refine Ev.pos h1 (Ev.pos h1.1 (Ev.pos (by omega) ?_))
   by_cases h2 : (rd_T73 c (rd o (i : Int))).f3 < 0
   ·exact Ev.pos h2 bad
   ·refine Ev.neg h2 ?_
    have go : (0 < i → ¬ (rd_T73 c (rd o ((i : Int) - 1))).f3 > (rd_T73 c (rd o (i : Int))).f3) → Ev (fun k => spec_l9Calls.j2 k (z : Int) (i : Int) (rd o (i : Int)) false w d t tm c o q s) false := fun h4 => by
     refine Ev.shift ?_
     simp only [spec_l9Calls.j2, Bool.false_eq_true, if_false]
     exact spec_l9Calls_l2 w d t tm c o q s z i hi ho false (fun h3 => absurd ⟨h1, h2, h3, h4⟩ hn) (fun _ => rfl)
    by_cases h5 : (i : Int) > 0
    ·have e1 : wrap64 ((i : Int) - 1) = (i : Int) - 1 := w64 (by omega) (by omega)
     have e2 : (0 : Int) ≤ (i : Int) - 1 := by omega
     have e3 : (i : Int) - 1 < (o.length : Int) := by omega
     have e4 := (hp (i - 1) (by omega)).1
     rw [show ((i - 1 : Nat) : Int) = (i : Int) - 1 by omega] at e4
     refine Ev.pos h5 ?_
     simp only [e1]
     refine Ev.pos e2 (Ev.pos e3 (Ev.pos e4.1 (Ev.pos (by omega) ?_)))
     by_cases h6 : (rd_T73 c (rd o ((i : Int) - 1))).f3 > (rd_T73 c (rd o (i : Int))).f3
     ·simp only [h6, decide_true]
      exact bad
     ·simp only [h6, decide_false]
      exact go fun _ => h6
    ·exact Ev.neg h5 (go fun a => absurd a (by omega))
  ·exact Ev.neg h1 bad
 ·have c0 : (0 : Int) ≤ (i : Int) := by omega
  have c1 : (i : Int) < (o.length : Int) := by omega
  obtain ⟨h1, h2, h3, h4⟩ := hr
  refine Ev.shift ?_
  simp only [spec_l9Calls.l1, c0, c1, if_true, specIn_eq, Option.bind_some, decide_eq_true_eq, hww]
  have go : Ev (fun k => spec_l9Calls.j2 k (z : Int) (i : Int) (rd o (i : Int)) false w d t tm c o q s) r := by
   refine Ev.shift ?_
   simp only [spec_l9Calls.j2, Bool.false_eq_true, if_false]
   exact spec_l9Calls_l2 w d t tm c o q s z i hi ho r (fun _ => h) (fun a => absurd a h3)
  refine Ev.pos h1 (Ev.pos h1.1 (Ev.pos (by omega) (Ev.neg h2 ?_)))
  by_cases h5 : (i : Int) > 0
  ·have e1 : wrap64 ((i : Int) - 1) = (i : Int) - 1 := w64 (by omega) (by omega)
   have e2 : (0 : Int) ≤ (i : Int) - 1 := by omega
   have e3 : (i : Int) - 1 < (o.length : Int) := by omega
   have e4 := (hp (i - 1) (by omega)).1
   rw [show ((i - 1 : Nat) : Int) = (i : Int) - 1 by omega] at e4
   have h6 := h4 (by omega)
   refine Ev.pos h5 ?_
   simp only [e1, h6, decide_false]
   exact Ev.pos e2 (Ev.pos e3 (Ev.pos e4.1 (Ev.pos (by omega) go)))
  ·exact Ev.neg h5 go
theorem spec_l9Calls_b (w : List mW) (d : List mD) (t : List mT) (tm : Int) (c : List mC) (o q : List Int) (s : Int) (ht : t.length ≤ 1048576) (hc : c.length ≤ 1048576) (ho : o.length ≤ 1048576) :
  EvB (fun k => spec_l9Calls.f k w d t tm c o q s) ((∀ x ∈ c, callP t.length tm x) ∧ c.length ≤ 40 ∧ ordersP c o) := by
 simp only [spec_l9Calls.f]
 refine (EvB.each c (R := fun _ x => callP t.length tm x) (Q := (∀ i, i < o.length → ordP c o i) ∧ c.length ≤ 40 ∧ cntC soC c c.length = o.length) (g := fun i k => spec_l9Calls.l0 k (cntC soC c i : Int) (i : Int) w d t tm c o q s) (fun _ => ?_) (fun i x hx hi hp hn => ?_) (fun i x hx hi hp hr r h => ?_)).iff ?_
 ·refine EvB.shift ?_
  simp only [spec_l9Calls.l0, Int.lt_irrefl, if_false]
  exact spec_orders_b w d t tm c o q s ho hc _
 ·have c0 : (0 : Int) ≤ (i : Int) := by omega
  have c1 : (i : Int) < (c.length : Int) := by omega
  have er : rd_T73 c (i : Int) = x := getD_get hx
  refine Ev.shift ?_
  simp only [spec_l9Calls.l0, c0, c1, if_true, er]
  exact Ev.bind ((spec_l9Call_b w d t tm c o q s x ht).nval hn) (Ev.neg (by decide) (Ev.now _))
 ·have c0 : (0 : Int) ≤ (i : Int) := by omega
  have c1 : (i : Int) < (c.length : Int) := by omega
  have er : rd_T73 c (i : Int) = x := getD_get hx
  have hle := cntC_le soC c i
  refine Ev.shift ?_
  simp only [spec_l9Calls.l0, c0, c1, if_true, er]
  refine Ev.bind ((spec_l9Call_b w d t tm c o q s x ht).val hr) (Ev.pos rfl ?_)
  simp only [cntC, er] at h
  by_cases h5 : x.f3 ≥ 0
  ·have e1 : wrap64 ((cntC soC c i : Int) + 1) = ((cntC soC c i + 1 : Nat) : Int) := by rw [w64 (by omega) (by omega)]; omega
   have e2 : soC x = true := by unfold soC; rw [decide_eq_true_iff]; exact h5
   simp only [e2, if_true] at h
   simp only [h5, decide_true, spec_l1Bit.f, if_true, Option.bind_some, e1, succ64 hi (by omega)]
   exact h
  ·have e1 : wrap64 ((cntC soC c i : Int) + 0) = ((cntC soC c i : Nat) : Int) := by rw [w64 (by omega) (by omega)]; omega
   have e2 : ¬ soC x = true := by unfold soC; rw [decide_eq_true_iff]; exact h5
   simp only [e2, if_false, Nat.add_zero] at h
   simp only [h5, decide_false, spec_l1Bit.f, if_false, Bool.false_eq_true, Option.bind_some, e1, succ64 hi (by omega)]
   exact h
 ·rw [each_mem]
  exact ⟨fun p => ⟨p.1, p.2.2.1, p.2.1, p.2.2.2⟩, fun p => ⟨p.1, p.2.2.1, p.2.1, p.2.2.2⟩⟩
theorem contains_ev (x : List Int) (hl : x.length ≤ 1048576) (v : Int) : EvB (fun k => slices_Contains_int_int.f k x v) (∃ j : Nat, j < x.length ∧ rd x (j : Int) = v) := by
 obtain ⟨r, q1, q2, q3⟩ := first_ev x (fun y => y = v) (g := fun i k => slices_Index_int_int.l0 k x v (x.length : Int) (i : Int)) (by
  refine Ev.shift ?_
  simp only [slices_Index_int_int.l0, Int.lt_irrefl, if_false]
  exact Ev.now _) (fun i y hx hi hn => by
  have c0 : (0 : Int) ≤ (i : Int) := by omega
  have c1 : (i : Int) < (x.length : Int) := by omega
  have er : rd x (i : Int) = y := rd_get hx
  refine Ev.shift ?_
  simp only [slices_Index_int_int.l0, c0, c1, if_true, er]
  exact Ev.pos hn.symm (Ev.now _)) (fun i y hx hi hn r h => by
  have c0 : (0 : Int) ≤ (i : Int) := by omega
  have c1 : (i : Int) < (x.length : Int) := by omega
  have er : rd x (i : Int) = y := rd_get hx
  refine Ev.shift ?_
  simp only [slices_Index_int_int.l0, c0, c1, if_true, er, succ64 hi (by omega)]
  exact Ev.neg (fun a => hn a.symm) h)
 refine ⟨decide (r ≥ 0), ?_, ?_⟩
 ·simp only [slices_Contains_int_int.f, slices_Index_int_int.f]
  exact Ev.bind q1 (Ev.now _)
 ·rw [decide_eq_true_iff, q3]
  constructor
  ·rintro ⟨y, hy, rfl⟩
   obtain ⟨j, hj, e⟩ := List.mem_iff_getElem.mp hy
   exact ⟨j, hj, by rw [← e]; exact rd_get (List.getElem?_eq_getElem hj)⟩
  ·rintro ⟨j, hj, e⟩
   refine ⟨v, ?_, rfl⟩
   rw [← e, show rd x (j : Int) = x[j] from rd_get (List.getElem?_eq_getElem hj)]
   exact List.getElem_mem hj
theorem dup_take {o : List Int} {i : Nat} (hi : i < o.length) : (∃ j : Nat, j < (o.take i).length ∧ rd (o.take i) (j : Int) = rd o (i : Int)) ↔ dup o i := by
 have hl : (o.take i).length = i := by rw [List.length_take]; omega
 rw [hl]
 constructor
 ·rintro ⟨j, hj, e⟩
  exact ⟨j, hj, by rw [← rd_take o hj (by omega)]; exact e⟩
 ·rintro ⟨j, hj, e⟩
  exact ⟨j, hj, by rw [rd_take o hj (by omega)]; exact e⟩
theorem impl_orders_b (w : List mW) (d : List mD) (t : List mT) (tm : Int) (c : List mC) (o q : List Int) (s : Int) (ho : o.length ≤ 1048576) (hc : c.length ≤ 1048576) (z : Nat) :
  EvB (fun k => impl_orderOk.l1 k (z : Int) o (o.length : Int) 0 w d t tm c o q s) ((∀ i, i < o.length → ordP c o i) ∧ z = o.length) := by
 have hww : wrap64 ((c.length : Int) - 1) = (c.length : Int) - 1 := w64 (by omega) (by omega)
 refine EvB.loop (n := o.length) (P := ordP c o) (g := fun i k => impl_orderOk.l1 k (z : Int) o (o.length : Int) (i : Int) w d t tm c o q s) (fun _ => ?_) (fun i hi hp hn => ?_) (fun i hi hp hr r h => ?_)
 ·refine EvB.shift ?_
  simp only [impl_orderOk.l1, Int.lt_irrefl, if_false]
  refine EvB.now ?_
  rw [beq_iff_eq]; omega
 ·have c0 : (0 : Int) ≤ (i : Int) := by omega
  have c1 : (i : Int) < (o.length : Int) := by omega
  have c2 : (i : Int) ≤ (o.length : Int) := by omega
  refine Ev.shift ?_
  simp only [impl_orderOk.l1, c0, c1, c2, if_true, implFrom_eq, Option.bind_some, decide_eq_true_eq, hww, Int.toNat_natCast]
  by_cases h1 : 0 ≤ rd o (i : Int) ∧ rd o (i : Int) ≤ (c.length : Int) - 1
  ·refine Ev.pos h1 (Ev.pos h1.1 (Ev.pos (by omega) ?_))
   by_cases h2 : (rd_T73 c (rd o (i : Int))).f3 < 0
   ·exact Ev.pos h2 (Ev.now _)
   ·refine Ev.neg h2 ?_
    refine EvB.then_ (contains_ev (o.take i) (by rw [List.length_take]; omega) (rd o (i : Int))) (fun h3 => Ev.pos rfl (Ev.now _)) (fun h3 => Ev.neg (by decide) ?_)
    rw [dup_take hi] at h3
    by_cases h5 : (i : Int) > 0
    ·have e1 : wrap64 ((i : Int) - 1) = (i : Int) - 1 := w64 (by omega) (by omega)
     have e2 : (0 : Int) ≤ (i : Int) - 1 := by omega
     have e3 : (i : Int) - 1 < (o.length : Int) := by omega
     have e4 := (hp (i - 1) (by omega)).1
     rw [show ((i - 1 : Nat) : Int) = (i : Int) - 1 by omega] at e4
     refine Ev.pos h5 ?_
     simp only [e1]
     refine Ev.pos e2 (Ev.pos e3 (Ev.pos e4.1 (Ev.pos (by omega) ?_)))
     by_cases h6 : (rd_T73 c (rd o ((i : Int) - 1))).f3 > (rd_T73 c (rd o (i : Int))).f3
     ·exact Ev.pos h6 (Ev.now _)
     ·exact absurd ⟨h1, h2, h3, fun _ => h6⟩ hn
    ·exact absurd ⟨h1, h2, h3, fun a => absurd a (by omega)⟩ hn
  ·exact Ev.neg h1 (Ev.now _)
 ·have c0 : (0 : Int) ≤ (i : Int) := by omega
  have c1 : (i : Int) < (o.length : Int) := by omega
  have c2 : (i : Int) ≤ (o.length : Int) := by omega
  obtain ⟨h1, h2, h3, h4⟩ := hr
  rw [← dup_take hi] at h3
  refine Ev.shift ?_
  simp only [impl_orderOk.l1, c0, c1, c2, if_true, implFrom_eq, Option.bind_some, decide_eq_true_eq, hww, Int.toNat_natCast, succ64 hi (by omega)]
  refine Ev.pos h1 (Ev.pos h1.1 (Ev.pos (by omega) (Ev.neg h2 ?_)))
  refine Ev.bind ((contains_ev (o.take i) (by rw [List.length_take]; omega) (rd o (i : Int))).nval h3) (Ev.neg (by decide) ?_)
  by_cases h5 : (i : Int) > 0
  ·have e1 : wrap64 ((i : Int) - 1) = (i : Int) - 1 := w64 (by omega) (by omega)
   have e2 : (0 : Int) ≤ (i : Int) - 1 := by omega
   have e3 : (i : Int) - 1 < (o.length : Int) := by omega
   have e4 := (hp (i - 1) (by omega)).1
   rw [show ((i - 1 : Nat) : Int) = (i : Int) - 1 by omega] at e4
   refine Ev.pos h5 ?_
   simp only [e1]
   exact Ev.pos e2 (Ev.pos e3 (Ev.pos e4.1 (Ev.pos (by omega) (Ev.neg (h4 (by omega)) h))))
  ·exact Ev.neg h5 h
theorem impl_orderOk_b (w : List mW) (d : List mD) (t : List mT) (tm : Int) (c : List mC) (o q : List Int) (s : Int) (ho : o.length ≤ 1048576) (hc : c.length ≤ 1048576) :
  EvB (fun k => impl_orderOk.f k w d t tm c o q s) (ordersP c o) := by
 simp only [impl_orderOk.f]
 refine (EvB.each c (R := fun _ _ => True) (Q := ordersP c o) (g := fun i k => impl_orderOk.l0 k (cntC soC c i : Int) c (c.length : Int) (i : Int) w d t tm c o q s) (fun _ => ?_) (fun i x hx hi hp hn => absurd trivial hn) (fun i x hx hi hp hr r h => ?_)).iff ⟨fun a => a.2, fun a => ⟨fun _ _ _ => trivial, a⟩⟩
 ·refine EvB.shift ?_
  simp only [impl_orderOk.l0, Int.lt_irrefl, if_false]
  exact impl_orders_b w d t tm c o q s ho hc _
 ·have c0 : (0 : Int) ≤ (i : Int) := by omega
  have c1 : (i : Int) < (c.length : Int) := by omega
  have er : rd_T73 c (i : Int) = x := getD_get hx
  have hle := cntC_le soC c i
  refine Ev.shift ?_
  simp only [impl_orderOk.l0, c0, c1, if_true, er]
  simp only [cntC, er] at h
  by_cases h5 : x.f3 ≥ 0
  ·have e1 : wrap64 ((cntC soC c i : Int) + 1) = ((cntC soC c i + 1 : Nat) : Int) := by rw [w64 (by omega) (by omega)]; omega
   have e2 : soC x = true := by unfold soC; rw [decide_eq_true_iff]; exact h5
   simp only [e2, if_true] at h
   simp only [h5, if_true, e1, succ64 hi (by omega)]
   exact h
  ·have e2 : ¬ soC x = true := by unfold soC; rw [decide_eq_true_iff]; exact h5
   simp only [e2, if_false, Nat.add_zero] at h
   simp only [h5, if_false, succ64 hi (by omega)]
   exact h
abbrev rdC (c : List mC) (i : Int) : mC := rd_T73 c i
theorem cntC_zero (R : mC → Bool) (c : List mC) : ∀ n, cntC R c n = 0 ↔ ∀ i, i < n → ¬ R (rdC c (i : Int)) = true
 | 0 => iff_of_true rfl (fun i hi => absurd hi (Nat.not_lt_zero _))
 | n + 1 => by
  have ih := cntC_zero R c n
  simp only [cntC]
  constructor
  ·intro h i hi
   by_cases e : i = n
   ·subst e
    intro hr
    rw [if_pos hr] at h
    omega
   ·exact ih.mp (by omega) i (by omega)
  ·intro h
   rw [ih.mpr (fun i hi => h i (by omega)), if_neg (h n (by omega))]
theorem cntC_one (R : mC → Bool) (c : List mC) {m : Nat} (hm : R (rdC c (m : Int)) = true) : ∀ n, m < n → (cntC R c n = 1 ↔ ∀ i, i < n → R (rdC c (i : Int)) = true → i = m)
 | 0, h => absurd h (Nat.not_lt_zero _)
 | n + 1, h => by
  simp only [cntC]
  by_cases e : m = n
  ·subst e
   rw [if_pos hm]
   have z := cntC_zero R c m
   constructor
   ·intro a i hi hr
    apply Classical.byContradiction
    intro hn
    exact z.mp (by omega) i (by omega) hr
   ·intro a
    rw [z.mpr (fun i hi hr => by have := a i (by omega) hr; omega)]
  ·have ih := cntC_one R c hm n (by omega)
   have pos : cntC R c n ≠ 0 := fun a => (cntC_zero R c n).mp a m (by omega) hm
   constructor
   ·intro a i hi hr
    by_cases f : i = n
    ·subst f
     rw [if_pos hr] at a
     omega
    ·refine ih.mp ?_ i (by omega) hr
     by_cases g : R (rdC c (n : Int)) = true
     ·rw [if_pos g] at a; omega
     ·rw [if_neg g] at a; omega
   ·intro a
    have g : ¬ R (rdC c (n : Int)) = true := fun g => by have := a n (by omega) g; omega
    rw [if_neg g, ih.mpr (fun i hi hr => a i (by omega) hr)]
def lastC (c : List mC) (a : Int) : Nat → Int
 | 0 => -1
 | i + 1 => if (rdC c (i : Int)).f0 = a then (i : Int) else lastC c a i
theorem lastC_in (c : List mC) (a : Int) : ∀ n, -1 ≤ lastC c a n ∧ lastC c a n < (n : Int) ∧ (0 ≤ lastC c a n → (rdC c (lastC c a n)).f0 = a)
 | 0 => by simp only [lastC]; omega
 | n + 1 => by
  obtain ⟨h1, h2, h3⟩ := lastC_in c a n
  simp only [lastC]
  split
  ·rename_i h; exact ⟨by omega, by omega, fun _ => h⟩
  ·exact ⟨h1, by omega, h3⟩
def endC (a : Int) (x : mC) : Bool := decide (x.f0 = a ∧ x.f4 ≥ 0)
def opnC (a : Int) (x : mC) : Bool := decide (x.f0 = a ∧ x.f4 < 0)
def opEq (u v : mO) : Bool := ((u.f0) == (v.f0) && (((u.f1) == (v.f1)) && ((u.f2) == (v.f2))))
def nowC (x : mT) (c : List mC) (l : Int) : Prop := 0 ≤ l ∧ (rdC c l).f4 = -1 ∧ opEq (rdC c l).f1 (rd_T69 x.f0 x.f1) = true
def tcP (a : Int) (x : mT) (c : List mC) : Prop := (cntC (endC a) c c.length : Int) = x.f1 ∧ (x.f2 = false → cntC (opnC a) c c.length = 0) ∧ (x.f2 = true → cntC (opnC a) c c.length = 1 ∧ nowC x c (lastC c a c.length))
theorem tcP_spec (a : Int) (x : mT) (c : List mC) : ((∀ (i : Nat) y, c[i]? = some y → y.f0 = a → y.f4 < 0 → x.f2 = true ∧ (i : Int) = lastC c a c.length) ∧ (cntC (endC a) c c.length : Int) = x.f1 ∧ (x.f2 = true → nowC x c (lastC c a c.length))) ↔ tcP a x c := by
 obtain ⟨l1, l2, l3⟩ := lastC_in c a c.length
 have conv : ∀ (P : Nat → Prop), (∀ (i : Nat) y, c[i]? = some y → y.f0 = a → y.f4 < 0 → P i) ↔ (∀ i, i < c.length → opnC a (rdC c (i : Int)) = true → P i) := fun P => by
  constructor
  ·intro h i hi hr
   have er : rdC c (i : Int) = c[i] := getD_get (List.getElem?_eq_getElem hi)
   rw [er] at hr
   unfold opnC at hr
   rw [decide_eq_true_iff] at hr
   exact h i _ (List.getElem?_eq_getElem hi) hr.1 hr.2
  ·intro h i y hy h1 h2
   have er : rdC c (i : Int) = y := getD_get hy
   refine h i (List.getElem?_eq_some_iff.mp hy).1 ?_
   rw [er]
   unfold opnC
   rw [decide_eq_true_iff]
   exact ⟨h1, h2⟩
 rw [conv]
 unfold tcP
 cases hf : x.f2
 ·constructor
  ·rintro ⟨p1, p2, _⟩
   exact ⟨p2, fun _ => (cntC_zero _ _ _).mpr (fun i hi hr => Bool.noConfusion (p1 i hi hr).1), fun b => Bool.noConfusion b⟩
  ·rintro ⟨p1, p2, _⟩
   exact ⟨fun i hi hr => absurd hr ((cntC_zero _ _ _).mp (p2 rfl) i hi), p1, fun b => Bool.noConfusion b⟩
 ·have key : nowC x c (lastC c a c.length) → (cntC (opnC a) c c.length = 1 ↔ ∀ i, i < c.length → opnC a (rdC c (i : Int)) = true → (i : Int) = lastC c a c.length) := fun hn => by
   obtain ⟨n1, n2, n3⟩ := hn
   obtain ⟨m, hm⟩ : ∃ m : Nat, lastC c a c.length = (m : Int) := ⟨(lastC c a c.length).toNat, by omega⟩
   have h0 := l3 n1
   rw [hm] at n2 h0 l2 ⊢
   have hr : opnC a (rdC c (m : Int)) = true := by
    unfold opnC
    rw [decide_eq_true_iff]
    exact ⟨h0, by omega⟩
   rw [cntC_one _ _ hr _ (by omega)]
   exact ⟨fun p i hi h => by have := p i hi h; omega, fun p i hi h => by have := p i hi h; omega⟩
  constructor
  ·rintro ⟨p1, p2, p3⟩
   exact ⟨p2, fun b => Bool.noConfusion b, fun _ => ⟨(key (p3 rfl)).mpr (fun i hi hr => (p1 i hi hr).2), p3 rfl⟩⟩
  ·rintro ⟨p1, _, p3⟩
   obtain ⟨q1, q2⟩ := p3 rfl
   exact ⟨fun i hi hr => ⟨rfl, (key q2).mp q1 i hi hr⟩, p1, fun _ => q2⟩
theorem spec_l9Last_ev (w : List mW) (d : List mD) (t : List mT) (tm : Int) (c : List mC) (o q : List Int) (s a : Int) (hc : c.length ≤ 1048576) : Ev (fun k => spec_l9Last.f k w d t tm c o q s a) (lastC c a c.length) := by
 have key : ∀ n : Nat, n ≤ c.length → Ev (fun k => spec_l9Last.l0 k a ((n : Int) - 1) w d t tm c o q s) (lastC c a n) := by
  intro n
  induction n with
  | zero =>
   intro _
   refine Ev.shift ?_
   have c0 : ¬ ((0 : Nat) : Int) - 1 ≥ 0 := by omega
   simp only [spec_l9Last.l0, c0, if_false, lastC]
   exact Ev.now _
  | succ n ih =>
   intro hn
   have e0 : ((n + 1 : Nat) : Int) - 1 = (n : Int) := by omega
   have c0 : (n : Int) ≥ 0 := by omega
   have c1 : (0 : Int) ≤ (n : Int) := by omega
   have c2 : (n : Int) < (c.length : Int) := by omega
   have e1 : wrap64 ((n : Int) - 1) = (n : Int) - 1 := w64 (by omega) (by omega)
   rw [e0]
   refine Ev.shift ?_
   simp only [spec_l9Last.l0, c0, c1, c2, if_true, lastC, e1]
   by_cases h : (rd_T73 c (n : Int)).f0 = a
   ·rw [if_pos h]
    exact Ev.pos h (Ev.now _)
   ·rw [if_neg h]
    exact Ev.neg h (ih (by omega))
 have := key c.length (Nat.le_refl _)
 have hww : wrap64 ((c.length : Int) - 1) = (c.length : Int) - 1 := w64 (by omega) (by omega)
 simp only [spec_l9Last.f, hww]
 exact this
theorem spec_l9Thread_b (w : List mW) (d : List mD) (t : List mT) (tm : Int) (c : List mC) (o q : List Int) (s : Int) (j : Nat) (x : mT) (hx : t[j]? = some x) (hn : thrN x) (hc : c.length ≤ 1048576) :
  EvB (fun k => spec_l9Thread.f k w d t tm c o q s (j : Int)) (tcP (j : Int) x c) := by
 have hjl : j < t.length := (List.getElem?_eq_some_iff.mp hx).1
 have c0 : (0 : Int) ≤ (j : Int) := by omega
 have c1 : (j : Int) < (t.length : Int) := by omega
 have er : rd_T97 t (j : Int) = x := getD_get hx
 obtain ⟨l1, l2, l3⟩ := lastC_in c (j : Int) c.length
 simp only [spec_l9Thread.f, c0, c1, if_true, er]
 refine EvB.at (spec_l9Last_ev w d t tm c o q s (j : Int) hc) ?_
 refine (EvB.each c (R := fun i y => y.f0 = (j : Int) → y.f4 < 0 → x.f2 = true ∧ (i : Int) = lastC c (j : Int) c.length) (Q := (cntC (endC (j : Int)) c c.length : Int) = x.f1 ∧ (x.f2 = true → nowC x c (lastC c (j : Int) c.length)))
  (g := fun i k => spec_l9Thread.l0 k (j : Int) (lastC c (j : Int) c.length) (cntC (endC (j : Int)) c i : Int) (i : Int) w d t tm c o q s x.f0 x.f1 x.f2 x.f3 x.f4) (fun _ => ?_) (fun i y hy hi hp hb => ?_) (fun i y hy hi hp hr r h => ?_)).iff (tcP_spec (j : Int) x c)
 ·refine EvB.shift ?_
  simp only [spec_l9Thread.l0, Int.lt_irrefl, if_false]
  refine EvB.ite (fun h1 => EvB.ite (fun h2 => EvB.ite (fun h3 => ?_) (fun h3 => EvB.no (Ev.now _) (fun p => h3 (p.2 h2).1))) (fun h2 => EvB.yes (Ev.now _) ⟨h1, fun a => absurd a h2⟩)) (fun h1 => EvB.no (Ev.now _) (fun p => h1 p.1))
  refine EvB.pos h3 (EvB.pos (by omega) ?_)
  refine EvB.ite (fun h4 => ?_) (fun h4 => EvB.no (Ev.now _) (fun p => h4 (p.2 h2).2.1))
  have := hn.2.2.1 h2
  have := hn.2.1
  refine EvB.pos (by omega) (EvB.pos (by omega) (EvB.now ?_))
  exact ⟨fun a => ⟨h1, fun _ => ⟨h3, h4, a⟩⟩, fun p => (p.2 h2).2.2⟩
 ·have d0 : (0 : Int) ≤ (i : Int) := by omega
  have d1 : (i : Int) < (c.length : Int) := by omega
  have ec : rd_T73 c (i : Int) = y := getD_get hy
  have h1 : y.f0 = (j : Int) := Classical.byContradiction fun a => hb fun b => absurd b a
  have h2 : y.f4 < 0 := Classical.byContradiction fun a => hb fun _ b => absurd b a
  have h3 : ¬ y.f4 ≥ 0 := by omega
  refine Ev.shift ?_
  simp only [spec_l9Thread.l0, d0, d1, if_true, ec]
  refine Ev.pos h1 (Ev.neg h3 ?_)
  by_cases h4 : x.f2 = true
  ·exact Ev.pos h4 (Ev.neg (fun a => hb fun _ _ => ⟨h4, a⟩) (Ev.now _))
  ·exact Ev.neg h4 (Ev.now _)
 ·have d0 : (0 : Int) ≤ (i : Int) := by omega
  have d1 : (i : Int) < (c.length : Int) := by omega
  have ec : rd_T73 c (i : Int) = y := getD_get hy
  have hle := cntC_le (endC (j : Int)) c i
  refine Ev.shift ?_
  simp only [spec_l9Thread.l0, d0, d1, if_true, ec, succ64 hi (by omega)]
  simp only [cntC, ec] at h
  by_cases h1 : y.f0 = (j : Int)
  ·refine Ev.pos h1 ?_
   by_cases h2 : y.f4 ≥ 0
   ·have e1 : wrap64 ((cntC (endC (j : Int)) c i : Int) + 1) = ((cntC (endC (j : Int)) c i + 1 : Nat) : Int) := by rw [w64 (by omega) (by omega)]; omega
    have e2 : endC (j : Int) y = true := by unfold endC; rw [decide_eq_true_iff]; exact ⟨h1, h2⟩
    simp only [e2, if_true] at h
    simp only [e1]
    exact Ev.pos h2 h
   ·have e2 : ¬ endC (j : Int) y = true := by unfold endC; rw [decide_eq_true_iff]; exact fun a => h2 a.2
    simp only [e2, if_false, Nat.add_zero] at h
    obtain ⟨g1, g2⟩ := hr h1 (by omega)
    exact Ev.neg h2 (Ev.pos g1 (Ev.pos g2 h))
  ·have e2 : ¬ endC (j : Int) y = true := by unfold endC; rw [decide_eq_true_iff]; exact fun a => h1 a.1
   simp only [e2, if_false, Nat.add_zero] at h
   exact Ev.neg h1 h
theorem impl_callsOk_b (w : List mW) (d : List mD) (t : List mT) (tm : Int) (c : List mC) (o q : List Int) (s : Int) (j : Nat) (x : mT) (hx : t[j]? = some x) (hn : thrN x) (hc : c.length ≤ 1048576) :
  EvB (fun k => impl_callsOk.f k w d t tm c o q s (j : Int)) (tcP (j : Int) x c) := by
 have hjl : j < t.length := (List.getElem?_eq_some_iff.mp hx).1
 have c0 : (0 : Int) ≤ (j : Int) := by omega
 have c1 : (j : Int) < (t.length : Int) := by omega
 have er : rd_T97 t (j : Int) = x := getD_get hx
 obtain ⟨l1, l2, l3⟩ := lastC_in c (j : Int) c.length
 simp only [impl_callsOk.f, c0, c1, if_true, er]
 refine (EvB.each c (R := fun _ _ => True) (Q := tcP (j : Int) x c)
  (g := fun i k => impl_callsOk.l0 k (j : Int) (lastC c (j : Int) i) (cntC (endC (j : Int)) c i : Int) (cntC (opnC (j : Int)) c i : Int) c (c.length : Int) (i : Int) w d t tm c o q s x.f0 x.f1 x.f2 x.f3 x.f4) (fun _ => ?_) (fun i y hy hi hp hb => absurd trivial hb) (fun i y hy hi hp hr r h => ?_)).iff ⟨fun a => a.2, fun a => ⟨fun _ _ _ => trivial, a⟩⟩
 ·refine EvB.shift ?_
  simp only [impl_callsOk.l0, Int.lt_irrefl, if_false]
  refine EvB.ite (fun h1 => EvB.ite (fun h2 => EvB.ite (fun h3 => EvB.ite (fun h5 => ?_) (fun h5 => EvB.no (Ev.now _) (fun p => h5 (by have := (p.2.2 h2).1; omega)))) (fun h3 => EvB.no (Ev.now _) (fun p => h3 (p.2.2 h2).2.1))) (fun h2 => EvB.now ?_)) (fun h1 => EvB.no (Ev.now _) (fun p => h1 p.1))
  ·refine EvB.pos h3 (EvB.pos (by omega) ?_)
   refine EvB.ite (fun h4 => ?_) (fun h4 => EvB.no (Ev.now _) (fun p => h4 (p.2.2 h2).2.2.1))
   have := hn.2.2.1 h2
   have := hn.2.1
   refine EvB.pos (by omega) (EvB.pos (by omega) (EvB.now ?_))
   exact ⟨fun a => ⟨h1, fun b => absurd h2 (by rw [b]; decide), fun _ => ⟨by omega, h3, h4, a⟩⟩, fun p => (p.2.2 h2).2.2.2⟩
  ·rw [beq_iff_eq]
   have h2' : x.f2 = false := by simpa using h2
   exact ⟨fun a => ⟨h1, fun _ => by omega, fun b => absurd b h2⟩, fun p => by have := p.2.1 h2'; omega⟩
 ·have d0 : (0 : Int) ≤ (i : Int) := by omega
  have d1 : (i : Int) < (c.length : Int) := by omega
  have ec : rd_T73 c (i : Int) = y := getD_get hy
  have hle := cntC_le (endC (j : Int)) c i
  have hle2 := cntC_le (opnC (j : Int)) c i
  refine Ev.shift ?_
  simp only [impl_callsOk.l0, d0, d1, if_true, ec, succ64 hi (by omega)]
  simp only [cntC, lastC, rdC, ec] at h
  by_cases h1 : y.f0 = (j : Int)
  ·simp only [h1, if_true] at h
   refine Ev.pos h1 ?_
   by_cases h2 : y.f4 ≥ 0
   ·have e1 : wrap64 ((cntC (endC (j : Int)) c i : Int) + 1) = ((cntC (endC (j : Int)) c i + 1 : Nat) : Int) := by rw [w64 (by omega) (by omega)]; omega
    have e2 : endC (j : Int) y = true := by unfold endC; rw [decide_eq_true_iff]; exact ⟨h1, h2⟩
    have e3 : ¬ opnC (j : Int) y = true := by unfold opnC; rw [decide_eq_true_iff]; exact fun a => absurd a.2 (by omega)
    simp only [e2, e3, if_true, if_false, Nat.add_zero] at h
    simp only [e1]
    exact Ev.pos h2 h
   ·have e1 : wrap64 ((cntC (opnC (j : Int)) c i : Int) + 1) = ((cntC (opnC (j : Int)) c i + 1 : Nat) : Int) := by rw [w64 (by omega) (by omega)]; omega
    have e2 : ¬ endC (j : Int) y = true := by unfold endC; rw [decide_eq_true_iff]; exact fun a => h2 a.2
    have e3 : opnC (j : Int) y = true := by unfold opnC; rw [decide_eq_true_iff]; exact ⟨h1, by omega⟩
    simp only [e2, e3, if_true, if_false, Nat.add_zero] at h
    simp only [e1]
    exact Ev.neg h2 h
  ·have e2 : ¬ endC (j : Int) y = true := by unfold endC; rw [decide_eq_true_iff]; exact fun a => h1 a.1
   have e3 : ¬ opnC (j : Int) y = true := by unfold opnC; rw [decide_eq_true_iff]; exact fun a => h1 a.1
   simp only [h1, e2, e3, if_false, Nat.add_zero] at h
   exact Ev.neg h1 h
def smM (w : List mW) (d : List mD) (t : List mT) (c : List mC) (o q : List Int) : Prop :=
 w.length ≤ 1048576 ∧ d.length ≤ 1048576 ∧ smD d ∧ t.length ≤ 1048576 ∧ (∀ x ∈ t, smT x) ∧ c.length ≤ 1048576 ∧ o.length ≤ 1048576 ∧ q.length ≤ 1048576
def machP (w : List mW) (d : List mD) (t : List mT) (tm : Int) (c : List mC) (o q : List Int) (s : Int) : Prop :=
 memP w d ∧ d.length = t.length ∧ (0 ≤ tm ∧ tm ≤ 100000) ∧ okB q 0 s = true ∧ ((∀ x ∈ c, callP t.length tm x) ∧ c.length ≤ 40 ∧ ordersP c o) ∧ ∀ (i : Nat) x, t[i]? = some x → thrP t.length x ∧ tcP (i : Int) x c
theorem spec_MachineOk_b (w : List mW) (d : List mD) (t : List mT) (tm : Int) (c : List mC) (o q : List Int) (s : Int) (h : smM w d t c o q) : EvB (fun k => spec_MachineOk.f k w d t tm c o q s) (machP w d t tm c o q s) := by
 obtain ⟨s1, s2, s3, s4, s5, s6, s7, s8⟩ := h
 have bad : Ev (fun k => spec_MachineOk.j0 k true w d t tm c o q s) false := Ev.shift (by simp only [spec_MachineOk.j0, if_true]; exact Ev.now _)
 simp only [spec_MachineOk.f, specIn_eq, Option.bind_some, decide_eq_true_eq]
 refine EvB.bind (spec_MemOk_b w d s1 s2 s3) (fun h1 => EvB.pos rfl ?_) (fun h1 => EvB.neg (by decide) (EvB.no bad (fun p => h1 p.1)))
 refine EvB.ite (fun h2 => EvB.ite (fun h3 => ?_) (fun h3 => EvB.no bad (fun p => h3 p.2.2.1))) (fun h2 => EvB.no bad (fun p => h2 (by rw [p.2.1])))
 refine EvB.at (spec_RowsOk_ev q s s8) ?_
 refine EvB.ite (fun h4 => ?_) (fun h4 => EvB.no bad (fun p => h4 p.2.2.2.1))
 refine EvB.bind (spec_l9Calls_b w d t tm c o q s s4 s6 s7) (fun h5 => ?_) (fun h5 => EvB.no bad (fun p => h5 p.2.2.2.2.1))
 refine EvB.shift ?_
 simp only [Bool.not_true, spec_MachineOk.j0, Bool.false_eq_true, if_false]
 refine (EvB.each t (R := fun i x => thrP t.length x ∧ tcP (i : Int) x c) (Q := True) (g := fun i k => spec_MachineOk.l0 k (i : Int) w d t tm c o q s) (fun _ => ?_) (fun i x hx hi hp hn => ?_) (fun i x hx hi hp hr r g => ?_)).iff ⟨fun a => ⟨h1, by omega, h3, h4, h5, a.1⟩, fun a => ⟨a.2.2.2.2.2, trivial⟩⟩
 ·refine EvB.yes (Ev.shift ?_) trivial
  simp only [spec_MachineOk.l0, Int.lt_irrefl, if_false]
  exact Ev.now _
 ·have c0 : (0 : Int) ≤ (i : Int) := by omega
  have c1 : (i : Int) < (t.length : Int) := by omega
  have er : rd_T97 t (i : Int) = x := getD_get hx
  refine Ev.shift ?_
  simp only [spec_MachineOk.l0, c0, c1, if_true, er]
  refine EvB.then_ (spec_ThreadOk_b t.length x (s5 x (List.mem_of_getElem? hx))) (fun g1 => Ev.pos rfl ?_) (fun g1 => Ev.neg (by decide) (Ev.now _))
  exact Ev.bind ((spec_l9Thread_b w d t tm c o q s i x hx g1.1 s6).nval (fun a => hn ⟨g1, a⟩)) (Ev.neg (by decide) (Ev.now _))
 ·have c0 : (0 : Int) ≤ (i : Int) := by omega
  have c1 : (i : Int) < (t.length : Int) := by omega
  have er : rd_T97 t (i : Int) = x := getD_get hx
  refine Ev.shift ?_
  simp only [spec_MachineOk.l0, c0, c1, if_true, er, succ64 hi (by omega)]
  refine Ev.bind ((spec_ThreadOk_b t.length x (s5 x (List.mem_of_getElem? hx))).val hr.1) (Ev.pos rfl ?_)
  exact Ev.bind ((spec_l9Thread_b w d t tm c o q s i x hx hr.1.1 s6).val hr.2) (Ev.pos rfl g)
theorem when_eq (x : mC) (a tm : Int) (w : List mW) (d : List mD) (t : List mT) (c : List mC) (o q : List Int) (s : Int) : EvB (fun _ => impl_MachineOk_1.f x.f0 x.f1.f0 x.f1.f1 x.f1.f2 x.f2 x.f3 x.f4 x.f5.f0 x.f5.f1 a w d t tm c o q s) (a = -1 ∨ (x.f2 ≤ a ∧ a ≤ tm)) := by
 simp only [impl_MachineOk_1.f, implFrom_eq, Option.bind_some]
 refine EvB.ite (fun h => EvB.yes (Ev.now _) (.inl h)) (fun h => EvB.now ?_)
 rw [decide_eq_true_iff]
 exact ⟨.inr, fun p => p.elim (fun b => absurd b h) id⟩
theorem impl_calls_l1 (w : List mW) (d : List mD) (t : List mT) (tm : Int) (c : List mC) (o q : List Int) (s : Int) (h : smM w d t c o q) : EvB (fun k => impl_MachineOk.l1 k (t.length : Int) t (t.length : Int) 0 w d t tm c o q s) ((∀ (i : Nat) x, t[i]? = some x → thrP t.length x ∧ tcP (i : Int) x c) ∧ ordersP c o) := by
 obtain ⟨s1, s2, s3, s4, s5, s6, s7, s8⟩ := h
 refine EvB.each t (R := fun i x => thrP t.length x ∧ tcP (i : Int) x c) (g := fun i k => impl_MachineOk.l1 k (t.length : Int) t (t.length : Int) (i : Int) w d t tm c o q s) (fun _ => ?_) (fun i x hx hi hp hn => ?_) (fun i x hx hi hp hr r g => ?_)
 ·refine EvB.shift ?_
  simp only [impl_MachineOk.l1, Int.lt_irrefl, if_false]
  exact EvB.bind (impl_orderOk_b w d t tm c o q s s7 s6) (fun a => EvB.yes (Ev.now _) a) (fun a => EvB.no (Ev.now _) a)
 ·have c0 : (0 : Int) ≤ (i : Int) := by omega
  have c1 : (i : Int) < (t.length : Int) := by omega
  have er : rd_T97 t (i : Int) = x := getD_get hx
  refine Ev.shift ?_
  simp only [impl_MachineOk.l1, c0, c1, if_true, er]
  refine EvB.then_ (impl_ThreadOk_b t.length (by omega) x (s5 x (List.mem_of_getElem? hx))) (fun g1 => Ev.pos rfl ?_) (fun g1 => Ev.neg (by decide) (Ev.now _))
  exact Ev.bind ((impl_callsOk_b w d t tm c o q s i x hx g1.1 s6).nval (fun a => hn ⟨g1, a⟩)) (Ev.neg (by decide) (Ev.now _))
 ·have c0 : (0 : Int) ≤ (i : Int) := by omega
  have c1 : (i : Int) < (t.length : Int) := by omega
  have er : rd_T97 t (i : Int) = x := getD_get hx
  refine Ev.shift ?_
  simp only [impl_MachineOk.l1, c0, c1, if_true, er, succ64 hi (by omega)]
  refine Ev.bind ((impl_ThreadOk_b t.length (by omega) x (s5 x (List.mem_of_getElem? hx))).val hr.1) (Ev.pos rfl ?_)
  exact Ev.bind ((impl_callsOk_b w d t tm c o q s i x hx hr.1.1 s6).val hr.2) (Ev.pos rfl g)
theorem impl_MachineOk_b (w : List mW) (d : List mD) (t : List mT) (tm : Int) (c : List mC) (o q : List Int) (s : Int) (h : smM w d t c o q) : EvB (fun k => impl_MachineOk.f k w d t tm c o q s) (machP w d t tm c o q s) := by
 have h0 := h
 obtain ⟨s1, s2, s3, s4, s5, s6, s7, s8⟩ := h
 have hww : wrap64 ((t.length : Int) - 1) = (t.length : Int) - 1 := w64 (by omega) (by omega)
 have bad : Ev (fun k => impl_MachineOk.j0 k (t.length : Int) true w d t tm c o q s) false := Ev.shift (by simp only [impl_MachineOk.j0, if_true]; exact Ev.now _)
 simp only [impl_MachineOk.f, implFrom_eq, Option.bind_some, decide_eq_true_eq]
 refine EvB.bind (impl_MemOk_b w d s1 s2 s3) (fun h1 => EvB.pos rfl ?_) (fun h1 => EvB.neg (by decide) (EvB.no bad (fun p => h1 p.1)))
 refine EvB.ite (fun h2 => EvB.ite (fun h3 => ?_) (fun h3 => EvB.no bad (fun p => h3 p.2.2.1))) (fun h2 => EvB.no bad (fun p => h2 (by rw [p.2.1])))
 refine EvB.ite (fun h6 => EvB.no bad (fun p => absurd p.2.2.2.2.1.2.1 (by omega))) (fun h6 => ?_)
 refine EvB.at (impl_RowsOk_ev q s s8) ?_
 cases h4 : okB q 0 s
 ·exact EvB.no bad (fun p => by rw [p.2.2.2.1] at h4; exact Bool.noConfusion h4)
 ·refine EvB.shift ?_
  simp only [Bool.not_true, impl_MachineOk.j0, Bool.false_eq_true, if_false]
  refine (EvB.each c (R := fun i x => callP t.length tm x) (Q := (∀ (i : Nat) x, t[i]? = some x → thrP t.length x ∧ tcP (i : Int) x c) ∧ ordersP c o) (g := fun i k => impl_MachineOk.l0 k (t.length : Int) c (c.length : Int) (i : Int) w d t tm c o q s) (fun _ => ?_) (fun i x hx hi hp hn => ?_) (fun i x hx hi hp hr r g => ?_)).iff ?_
  ·refine EvB.shift ?_
   simp only [impl_MachineOk.l0, Int.lt_irrefl, if_false]
   exact impl_calls_l1 w d t tm c o q s h0
  ·have c0 : (0 : Int) ≤ (i : Int) := by omega
   have c1 : (i : Int) < (c.length : Int) := by omega
   have er : rd_T73 c (i : Int) = x := getD_get hx
   refine Ev.shift ?_
   simp only [impl_MachineOk.l0, c0, c1, if_true, er, implFrom_eq, Option.bind_some, decide_eq_true_eq, hww]
   by_cases g1 : 0 ≤ x.f0 ∧ x.f0 ≤ (t.length : Int) - 1
   ·refine Ev.pos g1 (Ev.bind (impl_OpOk_ev _ _ _) ?_)
    by_cases g2 : opP x.f1
    ·refine Ev.pos g2 ?_
     by_cases g3 : 0 ≤ x.f2 ∧ x.f2 ≤ tm
     ·refine Ev.pos g3 (EvB.then_ (when_eq x x.f3 tm w d t c o q s) (fun g4 => Ev.pos rfl ?_) (fun g4 => Ev.neg (by decide) (Ev.now _)))
      exact Ev.bind ((when_eq x x.f4 tm w d t c o q s).nval (fun g5 => hn ⟨g1, g2, g3, g4, g5⟩)) (Ev.neg (by decide) (Ev.now _))
     ·exact Ev.neg g3 (Ev.now _)
    ·exact Ev.neg g2 (Ev.now _)
   ·exact Ev.neg g1 (Ev.now _)
  ·have c0 : (0 : Int) ≤ (i : Int) := by omega
   have c1 : (i : Int) < (c.length : Int) := by omega
   have er : rd_T73 c (i : Int) = x := getD_get hx
   obtain ⟨g1, g2, g3, g4, g5⟩ := hr
   refine Ev.shift ?_
   simp only [impl_MachineOk.l0, c0, c1, if_true, er, implFrom_eq, Option.bind_some, decide_eq_true_eq, hww, succ64 hi (by omega)]
   exact Ev.pos g1 (Ev.bind (impl_OpOk_ev _ _ _) (Ev.pos g2 (Ev.pos g3 (Ev.bind ((when_eq x x.f3 tm w d t c o q s).val g4) (Ev.pos rfl (Ev.bind ((when_eq x x.f4 tm w d t c o q s).val g5) (Ev.pos rfl g)))))))
  ·rw [each_mem]
   exact ⟨fun a => ⟨h1, by omega, h3, h4, ⟨a.1, by omega, a.2.2⟩, a.2.1⟩, fun a => ⟨a.2.2.2.2.1.1, a.2.2.2.2.2, a.2.2.2.2.1.2.2⟩⟩
def own (h : List Int) : Nat → Int → Int
 | 0, _ => 0
 | k + 1, v => if rd h (k : Int) = v then (k : Int) + 1 else own h k v
theorem place_facts {v : Int} (h1 : 1 ≤ v) (h6 : v ≤ 6) : spec_OwnerAt.f v = some (3 + v) ∧ impl_OwnerAt.f v = some (3 + v) ∧ spec_ViaAt.f v = some (13 + v) ∧ impl_ViaAt.f v = some (13 + v) ∧ impl_ClassOf.f v = some (v % 3) ∧ spec_ClassOf.f v = some (v % 3) ∧ spec_ValOk.f v = some true := by
 have g1 : v ≥ 1 := h1
 have e1 : wrap64 (3 + v) = 3 + v := w64 (by omega) (by omega)
 have e2 : wrap64 (13 + v) = 13 + v := w64 (by omega) (by omega)
 have e3 : Int.tmod v 3 = v % 3 := Int.tmod_eq_emod_of_nonneg (by omega)
 refine ⟨?_, ?_, ?_, ?_, ?_, ?_, ?_⟩
 ·simp only [spec_OwnerAt.f, spec_ValOk.f, spec_l1In.f, g1, h6, if_true, decide_true, Option.bind_some, e1]
 ·simp only [impl_OwnerAt.f, impl_ValOk.f, impl_from.f, impl_placed.f, g1, h6, if_true, decide_true, Option.bind_some, e1]
 ·simp only [spec_ViaAt.f, spec_ValOk.f, spec_l1In.f, spec_StateAt.f, g1, h6, if_true, decide_true, Option.bind_some, e2]
 ·simp only [impl_ViaAt.f, impl_ValOk.f, impl_from.f, impl_StateAt.f, impl_placed.f, g1, h6, if_true, decide_true, Option.bind_some, e2]
 ·simp only [impl_ClassOf.f, impl_ValOk.f, impl_from.f, g1, h6, if_true, decide_true, Option.bind_some, e3]
 ·simp only [spec_ClassOf.f, spec_ValOk.f, spec_l1In.f, g1, h6, if_true, decide_true, Option.bind_some, e3]
 ·simp only [spec_ValOk.f, spec_l1In.f, g1, h6, if_true, decide_true, Option.bind_some]
theorem keyBoth (h : List Int) (hl : h.length ≤ 1048576) (s v : Int) : ∃ r : Int, Ev (fun k => spec_KeyOf.f k h s v) r ∧ Ev (fun k => impl_KeyOf.f k h s v) r := by
 have key : ∀ p : Nat, p ≤ h.length → ∃ r : Int, Ev (fun k => spec_KeyOf.l0 k v (p : Int) h s) r ∧ Ev (fun k => slices_Index_int_int.l0 k h v (h.length : Int) (p : Int)) r := by
  refine back ?_ fun p hp ih => ?_
  ·refine ⟨-1, Ev.shift ?_, Ev.shift ?_⟩
   ·simp only [spec_KeyOf.l0, Int.lt_irrefl, if_false]; exact Ev.now _
   ·simp only [slices_Index_int_int.l0, Int.lt_irrefl, if_false]; exact Ev.now _
  ·have c0 : (0 : Int) ≤ (p : Int) := by omega
   have c1 : (p : Int) < (h.length : Int) := by omega
   by_cases e : rd h (p : Int) = v
   ·refine ⟨(p : Int), Ev.shift ?_, Ev.shift ?_⟩
    ·simp only [spec_KeyOf.l0, c0, c1, e, if_true]; exact Ev.now _
    ·simp only [slices_Index_int_int.l0, c0, c1, if_true]; exact Ev.pos e.symm (Ev.now _)
   ·obtain ⟨r, h1, h2⟩ := ih
    refine ⟨r, Ev.shift ?_, Ev.shift ?_⟩
    ·simp only [spec_KeyOf.l0, c0, c1, e, if_true, if_false, succ64 hp (by omega : h.length ≤ 9223372036854775807)]; exact h1
    ·simp only [slices_Index_int_int.l0, c0, c1, if_true, succ64 hp (by omega : h.length ≤ 9223372036854775807)]; exact Ev.neg (fun a => e a.symm) h2
 obtain ⟨r, h1, h2⟩ := key 0 (Nat.zero_le _)
 refine ⟨r, h1, ?_⟩
 simp only [impl_KeyOf.f, slices_Index_int_int.f]
 exact Ev.bind h2 (Ev.now _)
theorem valk (v : Int) : ∃ b : Bool, spec_ValOk.f v = some b ∧ impl_ValOk.f v = some b ∧ (b = true → 1 ≤ v ∧ v ≤ 6) := by
 simp only [spec_ValOk.f, spec_l1In.f, impl_ValOk.f, impl_from.f, Option.bind_some]
 by_cases h1 : v ≥ 1
 ·refine ⟨decide (v ≤ 6), ?_, ?_, fun a => ⟨h1, of_decide_eq_true a⟩⟩
  ·simp only [h1, if_true, Option.bind_some]
  ·simp only [h1, if_true, Option.bind_some]
 ·refine ⟨false, ?_, ?_, fun a => absurd a (by decide)⟩
  ·simp only [h1, if_false, Option.bind_some]
  ·simp only [h1, if_false, Option.bind_some]
theorem manyBoth (h : List Int) (hl : h.length ≤ 1048576) (s c : Int) : ∃ r : Int, Ev (fun k => spec_HowMany.f k h s c) r ∧ Ev (fun k => impl_HowMany.f k h s c) r := by
 have key : ∀ p : Nat, p ≤ h.length → ∀ n : Int, 0 ≤ n → n ≤ (p : Int) → ∃ r : Int, Ev (fun k => spec_HowMany.l0 k c n (p : Int) h s) r ∧ Ev (fun k => impl_HowMany.l0 k c n h (h.length : Int) (p : Int)) r := by
  refine back ?_ fun p hp ih => ?_
  ·intro n h0 h1
   refine ⟨n, Ev.shift ?_, Ev.shift ?_⟩
   ·simp only [spec_HowMany.l0, Int.lt_irrefl, if_false]; exact Ev.now _
   ·simp only [impl_HowMany.l0, Int.lt_irrefl, if_false]; exact Ev.now _
  ·intro n h0 h1
   have c0 : (0 : Int) ≤ (p : Int) := by omega
   have c1 : (p : Int) < (h.length : Int) := by omega
   have e0 : wrap64 (n + 0) = n := by rw [w64 (by omega) (by omega)]; omega
   have e1 : wrap64 (n + 1) = n + 1 := w64 (by omega) (by omega)
   obtain ⟨r0, a0, b0⟩ := ih n h0 (by omega)
   obtain ⟨r1, a1, b1⟩ := ih (n + 1) (by omega) (by omega)
   obtain ⟨b, v1, v2, v3⟩ := valk (rd h (p : Int))
   cases b
   ·refine ⟨r0, Ev.shift ?_, Ev.shift ?_⟩
    ·simp only [spec_HowMany.l0, c0, c1, v1, if_true, Option.bind_some, Bool.false_eq_true, if_false, spec_l1Bit.f, e0, succ64 hp (by omega : h.length ≤ 9223372036854775807)]; exact a0
    ·simp only [impl_HowMany.l0, c0, c1, v2, if_true, Option.bind_some, Bool.false_eq_true, if_false, succ64 hp (by omega : h.length ≤ 9223372036854775807)]; exact b0
   ·obtain ⟨g1, g6⟩ := v3 rfl
    obtain ⟨_, _, _, _, f5, f6, _⟩ := place_facts g1 g6
    by_cases e : rd h (p : Int) % 3 = c
    ·refine ⟨r1, Ev.shift ?_, Ev.shift ?_⟩
     ·simp only [spec_HowMany.l0, c0, c1, v1, f6, e, if_true, Option.bind_some, beq_self_eq_true, spec_l1Bit.f, e1, succ64 hp (by omega : h.length ≤ 9223372036854775807)]; exact a1
     ·simp only [impl_HowMany.l0, c0, c1, v2, f5, e, if_true, Option.bind_some, e1, succ64 hp (by omega : h.length ≤ 9223372036854775807)]; exact b1
    ·refine ⟨r0, Ev.shift ?_, Ev.shift ?_⟩
     ·simp only [spec_HowMany.l0, c0, c1, v1, f6, if_true, Option.bind_some, beq_iff_eq, e, if_false, spec_l1Bit.f, e0, succ64 hp (by omega : h.length ≤ 9223372036854775807)]; exact a0
     ·simp only [impl_HowMany.l0, c0, c1, v2, f5, if_true, Option.bind_some, e, if_false, succ64 hp (by omega : h.length ≤ 9223372036854775807)]; exact b0
 obtain ⟨r, h1, h2⟩ := key 0 (Nat.zero_le _) 0 (Int.le_refl _) (Int.le_refl _)
 exact ⟨r, h1, h2⟩
theorem rdI_w {l : List Int} {i : Nat} (h : i < l.length) : rd l (i : Int) = l[i] := rd_get (List.getElem?_eq_getElem h)
theorem drop_eq_iff {x y : List Int} {i : Nat} (hx : i < x.length) (hy : i < y.length) : x.drop i = y.drop i ↔ (rd x (i : Int) = rd y (i : Int) ∧ x.drop (i + 1) = y.drop (i + 1)) := by
 rw [List.drop_eq_getElem_cons hx, List.drop_eq_getElem_cons hy, rdI_w hx, rdI_w hy]
 exact List.cons_eq_cons
theorem equal_ev (x y : List Int) (hx : x.length ≤ 9223372036854775807) : Ev (fun k => slices_Equal_int_int.f k x y) (decide (x = y)) := by
 simp only [slices_Equal_int_int.f]
 by_cases h : (x.length : Int) = (y.length : Int)
 ·have hl : x.length = y.length := by omega
  refine Ev.pos h ?_
  have key : ∀ i : Nat, i ≤ x.length → ∃ r : Bool, (r = true ↔ x.drop i = y.drop i) ∧ Ev (fun k => slices_Equal_int_int.l0 k x y (x.length : Int) (i : Int)) r := by
   refine back ?_ fun i hi ih => ?_
   ·refine ⟨true, ?_, Ev.shift ?_⟩
    ·rw [List.drop_length, List.drop_eq_nil_of_le (by omega)]; simp
    ·simp only [slices_Equal_int_int.l0, Int.lt_irrefl, if_false]
     exact Ev.now _
   ·obtain ⟨r, h1, h2⟩ := ih
    have c0 : (0 : Int) ≤ (i : Int) := by omega
    have c1 : (i : Int) < (x.length : Int) := by omega
    have c2 : (i : Int) < (y.length : Int) := by omega
    have hd := drop_eq_iff (x := x) (y := y) hi (by omega)
    by_cases he : rd x (i : Int) = rd y (i : Int)
    ·refine ⟨r, by rw [h1, hd]; exact ⟨fun a => ⟨he, a⟩, fun a => a.2⟩, Ev.shift ?_⟩
     simp only [slices_Equal_int_int.l0, c0, c1, c2, if_true, succ64 hi hx]
     exact Ev.pos he h2
    ·refine ⟨false, by rw [hd]; exact ⟨fun a => Bool.noConfusion a, fun a => absurd a.1 he⟩, Ev.shift ?_⟩
     simp only [slices_Equal_int_int.l0, c0, c1, c2, if_true]
     exact Ev.neg he (Ev.now _)
  obtain ⟨r, h1, h2⟩ := key 0 (Nat.zero_le _)
  refine h2.to ?_
  rw [List.drop_zero, List.drop_zero] at h1
  rw [Bool.eq_iff_iff, h1, decide_eq_true_iff]
 ·refine Ev.neg h (Ev.val ?_)
  rw [eq_comm, decide_eq_false_iff_not]
  intro e
  rw [e] at h
  exact h rfl
theorem ints_ev (x y : List Int) (hx : x.length ≤ 1048576) (hy : y.length ≤ 1048576) : Ev (fun k => spec_l4Ints.f k x y) (decide (x = y)) := by
 simp only [spec_l4Ints.f]
 have key : ∀ i : Nat, i ≤ x.length → i ≤ y.length → ∃ r : Bool, (r = true ↔ x.drop i = y.drop i) ∧ Ev (fun k => spec_l4Ints.l0 k x y (i : Int)) r := by
  refine back ?_ fun i hi ih => ?_
  ·intro hy2
   refine ⟨((x.length : Int) == (y.length : Int)), ?_, Ev.shift ?_⟩
   ·rw [List.drop_length, beq_iff_eq]
    constructor
    ·intro e; exact (List.drop_eq_nil_of_le (by omega)).symm
    ·intro e
     have e2 : (y.drop x.length).length = 0 := by rw [← e]; rfl
     rw [List.length_drop] at e2
     omega
   ·simp only [spec_l4Ints.l0, Int.lt_irrefl, if_false]
    refine Ev.shift ?_
    simp only [spec_l4Ints.j1, Bool.false_eq_true, if_false]
    exact Ev.now _
  ·intro hy2
   have c0 : (0 : Int) ≤ (i : Int) := by omega
   have c1 : (i : Int) < (x.length : Int) := by omega
   by_cases hyi : i < y.length
   ·have c2 : (i : Int) < (y.length : Int) := by omega
    obtain ⟨r, h1, h2⟩ := ih (by omega)
    have hd := drop_eq_iff (x := x) (y := y) hi hyi
    by_cases he : rd x (i : Int) = rd y (i : Int)
    ·refine ⟨r, by rw [h1, hd]; exact ⟨fun a => ⟨he, a⟩, fun a => a.2⟩, Ev.shift ?_⟩
     simp only [spec_l4Ints.l0, c1, c2, decide_true, if_true]
     refine Ev.shift ?_
     simp only [spec_l4Ints.j1, c0, c1, c2, if_true, succ64 hi (by omega)]
     exact Ev.pos he h2
    ·refine ⟨false, by rw [hd]; exact ⟨fun a => Bool.noConfusion a, fun a => absurd a.1 he⟩, Ev.shift ?_⟩
     simp only [spec_l4Ints.l0, c1, c2, decide_true, if_true]
     refine Ev.shift ?_
     simp only [spec_l4Ints.j1, c0, c1, c2, if_true]
     exact Ev.neg he (Ev.now _)
   ·have c2 : ¬ (i : Int) < (y.length : Int) := by omega
    refine ⟨((x.length : Int) == (y.length : Int)), ?_, Ev.shift ?_⟩
    ·rw [beq_iff_eq]
     constructor
     ·intro e; omega
     ·intro e
      have e2 : (x.drop i).length = (y.drop i).length := by rw [e]
      rw [List.length_drop, List.length_drop] at e2
      omega
    ·simp only [spec_l4Ints.l0, c1, c2, decide_false, if_true]
     refine Ev.shift ?_
     simp only [spec_l4Ints.j1, Bool.false_eq_true, if_false]
     exact Ev.now _
 obtain ⟨r, h1, h2⟩ := key 0 (Nat.zero_le _) (Nat.zero_le _)
 refine h2.to ?_
 rw [List.drop_zero, List.drop_zero] at h1
 rw [Bool.eq_iff_iff, h1, decide_eq_true_iff]
end Go.Proofs.YtmljebgideecjaaGreat.P2
