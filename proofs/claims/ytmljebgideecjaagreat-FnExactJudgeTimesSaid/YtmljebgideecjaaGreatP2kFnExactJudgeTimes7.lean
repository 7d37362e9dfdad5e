/- The law FnExactJudgeTimes holds: for every input the call returns true, and each argument reads afterwards as_ it read before. Conditions: none. Written by a program of this session. -/
import Derived.Test.YtmljebgideecjaaGreatRows
import Derived.WalkKit
import Derived.ProofKit
import Derived.OpenShut
import Derived.ShutString
import Derived.ChangeOld
import Derived.Below
import Derived.SizedLaws
import Derived.Carry
import Derived.Test.YtmljebgideecjaaGreatP2kFnExactJudgeTimes6
set_option linter.unusedSimpArgs false
set_option linter.unusedVariables false
namespace Go.Proofs.YtmljebgideecjaaGreat.P2
open Go.RowKit Go.Proofs.YtmljebgideecjaaGreatW.PrintWords Go.Proofs.YtmljebgideecjaaGreatW.PrintLast Go.Proofs.YtmljebgideecjaaGreatZ
def own (h : List Int) : Nat → Int → Int
  | 0, _ => 0
  | k + 1, v => if rd h (k : Int) = v then (k : Int) + 1 else own h k v
def smC (c : List mC) : Prop := ∀ x ∈ c, x.f5.f1.length ≤ 1048576
def innP (c : List mC) (x : mC) (j : Nat) : Prop := (rdC c (j : Int)).f0 = x.f0 → 0 ≤ (rdC c (j : Int)).f4 ∧ (rdC c (j : Int)).f4 < x.f2
def jtP (c : List mC) (i : Nat) (x : mC) : Prop := (x.f4 ≥ 0 → 0 ≤ x.f3 ∧ x.f3 ≤ x.f4) ∧ ∀ j, j < i → innP c x j
theorem specTimes_in (w : List mW) (d : List mD) (t : List mT) (tm : Int) (c : List mC) (o q : List Int) (s : Int) (i : Nat) (x : mC) (hi : i < c.length) (hc : c.length ≤ 1048576) (r : Bool)
    (h : (∀ j, j < i → innP c x j) → Ev (fun k => spec_JudgeTimes.l0 k ((i + 1 : Nat) : Int) w d t tm c o q s) r) (h' : ¬ (∀ j, j < i → innP c x j) → r = false) :
    Ev (fun k => spec_JudgeTimes.j1 k (i : Int) false w d t tm c o q s x.f0 x.f1.f0 x.f1.f1 x.f1.f2 x.f2 x.f3 x.f4 x.f5.f0 x.f5.f1) r := by
  refine Ev.shift ?_
  simp only [spec_JudgeTimes.j1, Bool.false_eq_true, if_false]
  refine inner_ev (n := i) (P := innP c x) (g := fun j k => spec_JudgeTimes.l1 k (i : Int) (j : Int) w d t tm c o q s x.f0 x.f1.f0 x.f1.f1 x.f1.f2 x.f2 x.f3 x.f4 x.f5.f0 x.f5.f1) (fun hp => ?_) h' (fun j hj hn => ?_) (fun j hj hp g => ?_)
  · refine Ev.shift ?_
    simp only [spec_JudgeTimes.l1, Int.lt_irrefl, if_false, succ64 hi (by omega)]
    exact h hp
  · have c0 : (0 : Int) ≤ (j : Int) := by omega
    have c1 : (j : Int) < (i : Int) := by omega
    have c2 : (j : Int) < (c.length : Int) := by omega
    refine Ev.shift ?_
    simp only [spec_JudgeTimes.l1, c0, c1, c2, if_true]
    have e1 : (rdC c (j : Int)).f0 = x.f0 := Classical.byContradiction fun a => hn fun b => absurd b a
    refine Ev.pos e1 ?_
    by_cases e2 : (rdC c (j : Int)).f4 < 0
    · exact Ev.pos e2 (Ev.now _)
    · refine Ev.neg e2 (Ev.pos ?_ (Ev.now _))
      exact Classical.byContradiction fun a => hn fun _ => ⟨Int.not_lt.mp e2, Int.not_le.mp a⟩
  · have c0 : (0 : Int) ≤ (j : Int) := by omega
    have c1 : (j : Int) < (i : Int) := by omega
    have c2 : (j : Int) < (c.length : Int) := by omega
    refine Ev.shift ?_
    simp only [spec_JudgeTimes.l1, c0, c1, c2, if_true, succ64 hj (by omega)]
    by_cases e1 : (rdC c (j : Int)).f0 = x.f0
    · obtain ⟨a1, a2⟩ := hp e1
      exact Ev.pos e1 (Ev.neg (Int.not_lt.mpr a1) (Ev.neg (Int.not_le.mpr a2) g))
    · exact Ev.neg e1 g
theorem implTimes_in (w : List mW) (d : List mD) (t : List mT) (tm : Int) (c : List mC) (o q : List Int) (s : Int) (i : Nat) (x : mC) (hi : i < c.length) (hc : c.length ≤ 1048576) (r : Bool)
    (h : (∀ j, j < i → innP c x j) → Ev (fun k => impl_JudgeTimes.l0 k c (c.length : Int) ((i + 1 : Nat) : Int) w d t tm c o q s) r) (h' : ¬ (∀ j, j < i → innP c x j) → r = false) :
    Ev (fun k => impl_JudgeTimes.j1 k (i : Int) c (c.length : Int) (i : Int) false w d t tm c o q s x.f0 x.f1.f0 x.f1.f1 x.f1.f2 x.f2 x.f3 x.f4 x.f5.f0 x.f5.f1) r := by
  have b0 : (0 : Int) ≤ (i : Int) := by omega
  have b1 : (i : Int) ≤ (c.length : Int) := by omega
  have hl : (c.take i).length = i := by rw [List.length_take]; omega
  have rt : ∀ j : Nat, j < i → rd_T73 (c.take i) (j : Int) = rdC c (j : Int) := fun j hj => by
    have e1 : (c.take i)[j]? = some c[j] := by rw [List.getElem?_take_of_lt hj]; exact List.getElem?_eq_getElem (by omega)
    rw [show rd_T73 (c.take i) (j : Int) = c[j] from getD_get e1, show rdC c (j : Int) = c[j] from getD_get (List.getElem?_eq_getElem (by omega))]
  refine Ev.shift ?_
  simp only [impl_JudgeTimes.j1, Bool.false_eq_true, if_false, b0, b1, if_true, Option.bind_some, Int.toNat_natCast, hl]
  refine inner_ev (n := i) (P := innP c x) (g := fun j k => impl_JudgeTimes.l1 k c (c.length : Int) (i : Int) (c.take i) (i : Int) (j : Int) w d t tm c o q s x.f0 x.f1.f0 x.f1.f1 x.f1.f2 x.f2 x.f3 x.f4 x.f5.f0 x.f5.f1) (fun hp => ?_) h' (fun j hj hn => ?_) (fun j hj hp g => ?_)
  · refine Ev.shift ?_
    simp only [impl_JudgeTimes.l1, Int.lt_irrefl, if_false, succ64 hi (by omega)]
    exact h hp
  · have c0 : (0 : Int) ≤ (j : Int) := by omega
    have c1 : (j : Int) < (i : Int) := by omega
    refine Ev.shift ?_
    simp only [impl_JudgeTimes.l1, c0, c1, hl, if_true, rt j hj, impl_Ahead.f]
    have e1 : (rdC c (j : Int)).f0 = x.f0 := Classical.byContradiction fun a => hn fun b => absurd b a
    refine Ev.pos e1 ?_
    by_cases e2 : (rdC c (j : Int)).f4 ≥ 0
    · have e3 : ¬ (rdC c (j : Int)).f4 < x.f2 := fun a => hn fun _ => ⟨e2, a⟩
      simp only [e2, if_true, e3, decide_false, Option.bind_some, Bool.false_eq_true, if_false]
      exact Ev.now _
    · simp only [e2, if_false, Option.bind_some, Bool.false_eq_true]
      exact Ev.now _
  · have c0 : (0 : Int) ≤ (j : Int) := by omega
    have c1 : (j : Int) < (i : Int) := by omega
    refine Ev.shift ?_
    simp only [impl_JudgeTimes.l1, c0, c1, hl, if_true, rt j hj, impl_Ahead.f, succ64 hj (by omega)]
    by_cases e1 : (rdC c (j : Int)).f0 = x.f0
    · obtain ⟨a1, a2⟩ := hp e1
      have e2 : (rdC c (j : Int)).f4 ≥ 0 := a1
      refine Ev.pos e1 ?_
      simp only [e2, if_true, a2, decide_true, Option.bind_some]
      exact g
    · exact Ev.neg e1 g
theorem times_both (w : List mW) (d : List mD) (t : List mT) (tm : Int) (c : List mC) (o q : List Int) (s : Int) (h : smM w d t c o q) :
    ∃ r : Bool, Ev (fun k => spec_JudgeTimes.f k w d t tm c o q s) r ∧ Ev (fun k => impl_JudgeTimes.f k w d t tm c o q s) r := by
  have h1 := spec_MachineOk_b w d t tm c o q s h
  have h2 := impl_MachineOk_b w d t tm c o q s h
  obtain ⟨s1, s2, s3, s4, s5, s6, s7, s8⟩ := h
  simp only [spec_JudgeTimes.f, impl_JudgeTimes.f]
  by_cases hp : machP w d t tm c o q s
  · have hcalls := hp.2.2.2.2.1.1
    have p1 : EvB (fun k => spec_JudgeTimes.l0 k 0 w d t tm c o q s) (∀ (i : Nat) x, c[i]? = some x → jtP c i x) := by
      refine (EvB.each c (R := jtP c) (Q := True) (g := fun i k => spec_JudgeTimes.l0 k (i : Int) w d t tm c o q s) (fun _ => ?_) (fun i x hx hi hb hn => ?_) (fun i x hx hi hb hr r g => ?_)).iff (by rw [and_true])
      · refine EvB.yes (Ev.shift ?_) trivial
        simp only [spec_JudgeTimes.l0, Int.lt_irrefl, if_false]
        exact Ev.now _
      · have c0 : (0 : Int) ≤ (i : Int) := by omega
        have c1 : (i : Int) < (c.length : Int) := by omega
        have er : rd_T73 c (i : Int) = x := getD_get hx
        obtain ⟨_, _, p3, p4, p5⟩ := hcalls x (List.mem_of_getElem? hx)
        refine Ev.shift ?_
        simp only [spec_JudgeTimes.l0, c0, c1, if_true, er, specIn_eq, Option.bind_some]
        by_cases e1 : x.f4 ≥ 0
        · refine Ev.pos e1 ?_
          by_cases e2 : x.f2 ≤ x.f3 ∧ x.f3 ≤ x.f4
          · simp only [e2, and_self, decide_true, Bool.not_true]
            exact specTimes_in w d t tm c o q s i x hi s6 false (fun a => absurd ⟨fun _ => ⟨by omega, e2.2⟩, a⟩ hn) (fun _ => rfl)
          · simp only [e2, decide_false, Bool.not_false]
            refine Ev.shift ?_
            simp only [spec_JudgeTimes.j1, if_true]
            exact Ev.now _
        · exact Ev.neg e1 (specTimes_in w d t tm c o q s i x hi s6 false (fun a => absurd ⟨fun b => absurd b e1, a⟩ hn) (fun _ => rfl))
      · have c0 : (0 : Int) ≤ (i : Int) := by omega
        have c1 : (i : Int) < (c.length : Int) := by omega
        have er : rd_T73 c (i : Int) = x := getD_get hx
        obtain ⟨_, _, p3, p4, p5⟩ := hcalls x (List.mem_of_getElem? hx)
        obtain ⟨q1, q2⟩ := hr
        have go := specTimes_in w d t tm c o q s i x hi s6 r (fun _ => g) (fun a => absurd q2 a)
        refine Ev.shift ?_
        simp only [spec_JudgeTimes.l0, c0, c1, if_true, er, specIn_eq, Option.bind_some]
        by_cases e1 : x.f4 ≥ 0
        · have e2 : x.f2 ≤ x.f3 ∧ x.f3 ≤ x.f4 := by have := q1 e1; omega
          refine Ev.pos e1 ?_
          simp only [e2, and_self, decide_true, Bool.not_true]
          exact go
        · exact Ev.neg e1 go
    have p2 : EvB (fun k => impl_JudgeTimes.l0 k c (c.length : Int) 0 w d t tm c o q s) (∀ (i : Nat) x, c[i]? = some x → jtP c i x) := by
      refine (EvB.each c (R := jtP c) (Q := True) (g := fun i k => impl_JudgeTimes.l0 k c (c.length : Int) (i : Int) w d t tm c o q s) (fun _ => ?_) (fun i x hx hi hb hn => ?_) (fun i x hx hi hb hr r g => ?_)).iff (by rw [and_true])
      · refine EvB.yes (Ev.shift ?_) trivial
        simp only [impl_JudgeTimes.l0, Int.lt_irrefl, if_false]
        exact Ev.now _
      · have c0 : (0 : Int) ≤ (i : Int) := by omega
        have c1 : (i : Int) < (c.length : Int) := by omega
        have er : rd_T73 c (i : Int) = x := getD_get hx
        have bad : Ev (fun k => impl_JudgeTimes.j1 k (i : Int) c (c.length : Int) (i : Int) true w d t tm c o q s x.f0 x.f1.f0 x.f1.f1 x.f1.f2 x.f2 x.f3 x.f4 x.f5.f0 x.f5.f1) false := Ev.shift (by simp only [impl_JudgeTimes.j1, if_true]; exact Ev.now _)
        refine Ev.shift ?_
        simp only [impl_JudgeTimes.l0, c0, c1, if_true, er]
        by_cases e1 : x.f4 ≥ 0
        · refine Ev.pos e1 ?_
          by_cases e2 : x.f3 < 0
          · exact Ev.pos e2 bad
          · refine Ev.neg e2 ?_
            by_cases e3 : x.f3 > x.f4
            · simp only [e3, decide_true]; exact bad
            · simp only [e3, decide_false]
              exact implTimes_in w d t tm c o q s i x hi s6 false (fun a => absurd ⟨fun _ => ⟨by omega, by omega⟩, a⟩ hn) (fun _ => rfl)
        · exact Ev.neg e1 (implTimes_in w d t tm c o q s i x hi s6 false (fun a => absurd ⟨fun b => absurd b e1, a⟩ hn) (fun _ => rfl))
      · have c0 : (0 : Int) ≤ (i : Int) := by omega
        have c1 : (i : Int) < (c.length : Int) := by omega
        have er : rd_T73 c (i : Int) = x := getD_get hx
        obtain ⟨q1, q2⟩ := hr
        have go := implTimes_in w d t tm c o q s i x hi s6 r (fun _ => g) (fun a => absurd q2 a)
        refine Ev.shift ?_
        simp only [impl_JudgeTimes.l0, c0, c1, if_true, er]
        by_cases e1 : x.f4 ≥ 0
        · obtain ⟨a1, a2⟩ := q1 e1
          have e3 : ¬ x.f3 > x.f4 := by omega
          refine Ev.pos e1 (Ev.neg (by omega) ?_)
          simp only [e3, decide_false]
          exact go
        · exact Ev.neg e1 go
    obtain ⟨r, r1, r2⟩ := p1.both p2
    exact ⟨r, Ev.bind (h1.val hp) (Ev.pos rfl r1), Ev.bind (h2.val hp) (Ev.pos rfl r2)⟩
  · exact ⟨false, Ev.bind (h1.nval hp) (Ev.neg (by decide) (Ev.now _)), Ev.bind (h2.nval hp) (Ev.neg (by decide) (Ev.now _))⟩
theorem machine_law (x : S32) (hx : wf32 x) (sp im : Nat → List mW → List mD → List mT → Int → List mC → List Int → List Int → Int → Option Bool)
    (hb : ∀ (w : List mW) (d : List mD) (t : List mT) (tm : Int) (c : List mC) (o q : List Int) (s : Int), smM w d t c o q → smC c → okWs w → okDs d → ∃ r : Bool, Ev (fun k => sp k w d t tm c o q s) r ∧ Ev (fun k => im k w d t tm c o q s) r) :
    Ev (fun k => (laws_szMachine.f k x.f0.f0 x.f0.f1 x.f1 x.f2 x.f3 x.f4 x.f5.f0 x.f5.f1 1048576).bind fun t102 => (if t102 < 0 then (some true) else ((laws_toMachine.f k x.f0.f0 x.f0.f1 x.f1 x.f2 x.f3 x.f4 x.f5.f0 x.f5.f1).bind fun bt103 => ((sp k bt103.1 bt103.2.1 bt103.2.2.1 bt103.2.2.2.1 bt103.2.2.2.2.1 bt103.2.2.2.2.2.1 bt103.2.2.2.2.2.2.1 bt103.2.2.2.2.2.2.2).bind fun t123 => ((laws_toMachine.f k x.f0.f0 x.f0.f1 x.f1 x.f2 x.f3 x.f4 x.f5.f0 x.f5.f1).bind fun bt124 => ((im k bt124.1 bt124.2.1 bt124.2.2.1 bt124.2.2.2.1 bt124.2.2.2.2.1 bt124.2.2.2.2.2.1 bt124.2.2.2.2.2.2.1 bt124.2.2.2.2.2.2.2).bind fun t145 => (if (t145 != t123) = true then (some false) else ((laws_toMachine.f k x.f0.f0 x.f0.f1 x.f1 x.f2 x.f3 x.f4 x.f5.f0 x.f5.f1).bind fun bt146 => ((laws_eqMachine.f k bt124.1 bt124.2.1 bt124.2.2.1 bt124.2.2.2.1 bt124.2.2.2.2.1 bt124.2.2.2.2.2.1 bt124.2.2.2.2.2.2.1 bt124.2.2.2.2.2.2.2 bt146.1 bt146.2.1 bt146.2.2.1 bt146.2.2.2.1 bt146.2.2.2.2.1 bt146.2.2.2.2.2.1 bt146.2.2.2.2.2.2.1 bt146.2.2.2.2.2.2.2).bind fun t166 => (if t166 = true then (some true) else (some false))))))))))) true := by
  obtain ⟨⟨⟨w1, w2⟩, ⟨d1, d2⟩⟩, ⟨t1, t2⟩, _, ⟨c1, c2⟩, ⟨p1, p2⟩, ⟨⟨q1, q2⟩, _⟩⟩ := hx
  have hd : wfDs x.f0.f1 := ⟨d1, fun y hy => ⟨(d2 y hy).2.2.1.1, (d2 y hy).2.2.2.2.1⟩⟩
  have ht : wfTs x.f1 := ⟨t1, fun y hy => ⟨(t2 y hy).1.1, (t2 y hy).2.2.2.1.1, (t2 y hy).2.2.2.2.1⟩⟩
  have hc : wfCs x.f3 := ⟨c1, fun y hy => (c2 y hy).2.2.2.2.2.2.1⟩
  refine Ev.bind (szMachine_ev x.f0.f0 x.f0.f1 x.f1 x.f2 x.f3 x.f4 x.f5.f0 x.f5.f1 1048576 (by decide) (by decide) w1 hd ht hc p1 q1) ?_
  by_cases h : wtMem x.f0.f0 x.f0.f1 + wtTail x.f1 x.f3 x.f4 x.f5.f0 ≤ 1048576
  · have n1 := ctl_nonneg wtDesc_nn x.f0.f1
    have n2 := ctl_nonneg wtThread_nn x.f1
    have n3 := ctl_nonneg wtCall_nn x.f3
    have hW := h
    unfold wtMem wtTail at hW
    have hto := toMachine_ev x.f0.f0 x.f0.f1 x.f1 x.f2 x.f3 x.f4 x.f5.f0 x.f5.f1 h
    have heq := eqMachine_ev x.f0.f0 x.f0.f1 x.f1 x.f2 x.f3 x.f4 x.f5.f0 x.f5.f1 h
    have ow : okWs (x.f0.f0.map cWord) := fun y hy => by
      obtain ⟨a, ha, rfl⟩ := List.mem_map.mp hy
      exact i64_wf (w2 a ha).1
    have od : okDs (x.f0.f1.map cDesc) := fun y hy => by
      obtain ⟨a, ha, rfl⟩ := List.mem_map.mp hy
      have hm := Int.le_trans (ctl_mem wtDesc_nn ha) (show ctl wtDesc x.f0.f1 ≤ 1048576 by omega)
      refine ⟨(smDesc_of a hm).1, fun e he => ?_⟩
      obtain ⟨b, hb, rfl⟩ := List.mem_map.mp he
      have hw := (d2 a ha).2.2.1.2 b hb
      exact ⟨i64_wf hw.2.1, i64_wf hw.2.2⟩
    have st : ∀ y ∈ x.f1.map cThread, smT y := fun y hy => by
      obtain ⟨a, ha, rfl⟩ := List.mem_map.mp hy
      exact smThread_of a (Int.le_trans (ctl_mem wtThread_nn ha) (show ctl wtThread x.f1 ≤ 1048576 by omega))
    have sc : smC (x.f3.map cCall) := fun y hy => by
      obtain ⟨a, ha, rfl⟩ := List.mem_map.mp hy
      exact smCall_of a (Int.le_trans (ctl_mem wtCall_nn ha) (show ctl wtCall x.f3 ≤ 1048576 by omega))
    have sM : smM (x.f0.f0.map cWord) (x.f0.f1.map cDesc) (x.f1.map cThread) (x.f3.map cCall) x.f4 x.f5.f0 :=
      ⟨by rw [List.length_map]; omega, by rw [List.length_map]; omega, fun y hy => (od y hy).1, by rw [List.length_map]; omega, st, by rw [List.length_map]; omega, by omega, by omega⟩
    obtain ⟨r, g1, g2⟩ := hb (x.f0.f0.map cWord) (x.f0.f1.map cDesc) (x.f1.map cThread) x.f2 (x.f3.map cCall) x.f4 x.f5.f0 x.f5.f1 sM sc ow od
    rw [lf_pos h]
    refine Ev.neg (by omega) ?_
    refine Ev.bind hto (Ev.bind g1 (Ev.bind hto (Ev.bind g2 ?_)))
    refine Ev.neg (by simp) (Ev.bind hto (Ev.bind heq ?_))
    exact Ev.pos rfl (Ev.now _)
  · rw [lf_neg h]
    exact Ev.pos (by decide) (Ev.now _)
theorem pureFnExactJudgeTimes : PureFnExactJudgeTimes := by
  intro x hx
  refine Ev.rounds ?_
  simp only [laws_FnExactJudgeTimes.f]
  exact machine_law x hx (fun k => spec_JudgeTimes.f k) (fun k => impl_JudgeTimes.f k) (fun w d t tm c o q s h hc ow od => times_both w d t tm c o q s h)
end Go.Proofs.YtmljebgideecjaaGreat.P2
namespace Go.Proofs.YtmljebgideecjaaGreat.fnExactJudgeTimes
open Go.ChangeShapes Go.WideShapes Go.ChangeAt Go.RowKit Go.Proofs.YtmljebgideecjaaGreatW.PrintWords Go.Proofs.YtmljebgideecjaaGreatW.PrintLast Go.Proofs.YtmljebgideecjaaGreatZ Go.Proofs.YtmljebgideecjaaGreat.P2
open Go.ChangeMaps (open_string shut_string)
theorem own : ownKnob Tryz.prog.godebug = none := by kernel_rfl
theorem laidOut : laidOutB Tryz.prog = true := by kernel_rfl
set_option maxRecDepth 100000 in
theorem lifted (os : Os) (started : os.Started) (H : Type) (enc : TypeId × Value → H) :
    ReturnsInHanded {} Tryz.checked os 3 .any (Rows.fnExactJudgeTimesSpec.pre6 enc Tryz.prog Tryz.f3 Rows.fnExactJudgeTimesRow.domain false) (Rows.fnExactJudgeTimesSpec.post enc Tryz.prog Tryz.f3 false true false false) := by
  refine returnsInHanded_of_change_sized (C := Tryz.checked) own started (by kernel_rfl) Tryz.func3
    (ChangeSpec.witness6 (enc := enc) (C := Tryz.checked) false ⟨#[], #[.agg #[.slice none 0 0, .slice none 0 0, .slice none 0 0, .int .i64 0, .slice none 0 0, .slice none 0 0, .slice none 0 0, .int .i64 0]], []⟩ 8 (by kernel_rfl) (by kernel_rfl) (by kernel_rfl) (by kernel_rfl)) ?_
  intro W base args ds gs before hval0 hW hcnd hsz0 _
  have hval : ∀ (j : Nat) t v, Tryz.f3.params[j]? = some t → args[j]? = some v → Value.okWide Tryz.prog W .any base t v := hval0
  have hW' := hW
  obtain ⟨p, q, hA0, hV, rfl, hfz, hnd⟩ := hW
  have hA : DataW.TrodAll enc Tryz.prog W 0 (fun _ => true) true Tryz.f3.params.toList args.toList ds p := hA0
  rw [Tryz.params3] at hA hval
  obtain ⟨v0, vs0, d0, ds0, p0, q0, hargs, rfl, rfl, h0, r0⟩ := trodAll_cons hA
  obtain ⟨rfl, rfl, rfl⟩ := trodAll_nil r0
  obtain rfl : args = #[v0] := by cases args; simp_all
  obtain ⟨rfl, rfl⟩ := trodVars_none hV
  have k0_ := h0
  have lt0 : ∀ x ∈ p0, x.block < W.heap.size := by obtain ⟨m, hm⟩ := k0_; exact DataW.trod_lt m _ _ _ hm
  obtain ⟨cs0, rfl⟩ := okWide_agg Tryz.underlying32 (hval 0 32 v0 rfl rfl)
  obtain ⟨x0, K0, wf0_⟩ := Opens.param op32 h0
  replace K0 : k32.K W x0 cs0.toList := K0
  obtain ⟨A0_0, c0_0, A0_1, c0_1, A0_2, c0_2, A0_4, c0_4, A0_5, c0_5, A0_6, c0_6, e0, l0_0, g0_0, l0_1, g0_1, l0_2, g0_2, l0_4, g0_4, l0_5, g0_5, l0_6, g0_6⟩ := k32_open K0
  obtain rfl := Array.ext' (ys := ⟨_⟩) e0
  obtain ⟨k, hk⟩ := pureFnExactJudgeTimes x0 wf0_
  clear hA0 hval0 hsz0
  refine (laws_FnExactJudgeTimes.calls k _ _ x0.f0.f0 _ _ x0.f0.f1 _ _ x0.f1 x0.f2 _ _ x0.f3 _ _ x0.f4 _ _ x0.f5.f0 x0.f5.f1 true W g0_0 l0_0 g0_1 l0_1 g0_2 l0_2 g0_4 l0_4 g0_5 l0_5 g0_6 l0_6 hk).mono fun e W' hh => ?_
  obtain ⟨he, bel0⟩ := hh
  have bel : Below W.heap.size W W' := bel0
  subst he
  exact ⟨_, rfl, _, _, _, [], _, [], hW', trodAll_mk1 (shut_bool Tryz.underlying4 _), (trodAll_cons_mk (Below.trod laidOut (by kernel_rfl) (of_decide_eq_true (by kernel_rfl)) k0_ bel lt0) trodAll_mk0), rfl, bel.frame _, fun h => by cases h⟩
theorem over : Rows.fnExactJudgeTimesRow.holds Tryz.pinned (OpenSpec.ofChange Rows.fnExactJudgeTimesSpec) :=
  OpenClaim.holds_of_wide 3 Tryz.f3 rfl rfl rfl rfl rfl rfl rfl ⟨rfl, rfl, rfl, rfl, rfl⟩ rfl rfl rfl rfl rfl (by kernel_rfl) Tryz.func3 (by kernel_rfl)
    (of_decide_eq_true (by kernel_rfl)) (by unfold Func.isWrapper; first | (rw [if_pos (by decide +kernel)]; kernel_rfl) | (rw [if_neg (by decide +kernel)]; exact ⟨rfl, rfl⟩))
    (fun os started H enc _ => lifted os started H enc)
theorem proved : Rows.FnExactJudgeTimesSaid := over
#print axioms proved
end Go.Proofs.YtmljebgideecjaaGreat.fnExactJudgeTimes
namespace Go.Proofs.YtmljebgideecjaaGreat
theorem fnExactJudgeTimes_holds : Rows.FnExactJudgeTimesSaid := fnExactJudgeTimes.proved
end Go.Proofs.YtmljebgideecjaaGreat
