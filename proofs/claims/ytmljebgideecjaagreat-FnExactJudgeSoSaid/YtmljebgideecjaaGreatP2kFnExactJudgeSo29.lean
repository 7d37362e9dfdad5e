/- A part of the proof of the law FnExactJudgeSo: texts of this seat, merged (words, printed functions of the program, plain lemmas). Conditions: none of its own. -/
import Derived.Test.YtmljebgideecjaaGreatP2kFnExactJudgeSo1
import Derived.Test.YtmljebgideecjaaGreatP2kFnExactJudgeSo6
import Derived.Test.YtmljebgideecjaaGreatP2kFnExactJudgeSo7
import Derived.Test.YtmljebgideecjaaGreatP2kFnExactJudgeSo8
import Derived.Test.YtmljebgideecjaaGreatP2kFnExactJudgeSo9
import Derived.Test.YtmljebgideecjaaGreatP2kFnExactJudgeSo10
import Derived.Test.YtmljebgideecjaaGreatP2kFnExactJudgeSo11
import Derived.Test.YtmljebgideecjaaGreatP2kFnExactJudgeSo12
import Derived.Test.YtmljebgideecjaaGreatP2kFnExactJudgeSo14
import Derived.Test.YtmljebgideecjaaGreatP2kFnExactJudgeSo20
import Derived.Test.YtmljebgideecjaaGreatP2kFnExactJudgeSo21
import Derived.Test.YtmljebgideecjaaGreatP2kFnExactJudgeSo28
set_option linter.unusedSimpArgs false
set_option linter.unusedVariables false
set_option maxHeartbeats 8000000
set_option maxRecDepth 100000
namespace Go.Proofs.YtmljebgideecjaaGreat.P2
open Go.RowKit Go.Proofs.YtmljebgideecjaaGreatW.PrintWords Go.Proofs.YtmljebgideecjaaGreatW.PrintLast Go.Proofs.YtmljebgideecjaaGreatZ
abbrev lPair := S204
abbrev iPair := S172
def cPair (x : lPair) : iPair := ⟨x.f0, x.f1⟩
theorem szPairS_eq (l : List lPair) (t : Int) (h0 : 0 ≤ t) (h1 : t ≤ 1048576) (hl : l.length ≤ 9223372036854775807) : laws_szPairS.f l t = some (lf (l.length : Int) t) := by
 have e : wrap64 (t - (l.length : Int)) = t - l.length := w64 (by omega) (by omega)
 unfold laws_szPairS.f lf
 rw [e]
 by_cases h : (l.length : Int) ≤ t
 ·rw [if_neg (by omega), if_pos h]
 ·rw [if_pos (by omega), if_neg h]
theorem toPairS_ev (l : List lPair) (hl : l.length ≤ 1048576) : Ev (fun k => laws_toPairS.f k l) (l.map cPair) := by
 have c1 : (0 : Int) ≤ (l.length : Int) := by omega
 simp only [laws_toPairS.f, c1, if_true, Int.toNat_natCast]
 refine Ev.pos (by omega) ?_
 refine fill_ev l cPair z172 (g := fun k s i => laws_toPairS.l0 k l s i) ?_ ?_
 ·intro s hs
  refine Ev.shift ?_
  simp only [laws_toPairS.l0, Int.lt_irrefl, if_false]
  exact Ev.now _
 ·intro s i x r hx hs hi h
  have hr : rd_T204 l (i : Int) = x := getD_get hx
  refine Ev.shift ?_
  have d1 : (i : Int) < (l.length : Int) := by omega
  have d2 : (0 : Int) ≤ (i : Int) := by omega
  have d3 : (i : Int) < (s.length : Int) := by omega
  simp only [laws_toPairS.l0, laws_toPair.f, Option.bind_some, d1, d2, d3, if_true, hr, Int.toNat_natCast, succ64 hi (by omega)]
  exact h
theorem eqPairS_ev (l : List iPair) (hl : l.length ≤ 9223372036854775807) : Ev (fun k => laws_eqPairS.f k l l) true := by
 simp only [laws_eqPairS.f, if_true]
 refine look_ev l true (g := fun k i => laws_eqPairS.l0 k l l i) ?_ ?_
 ·refine Ev.shift ?_
  simp only [laws_eqPairS.l0, Int.lt_irrefl, if_false]
  exact Ev.now _
 ·intro i x hx hi h
  refine Ev.shift ?_
  have d1 : (i : Int) < (l.length : Int) := by omega
  have d2 : (0 : Int) ≤ (i : Int) := by omega
  simp only [laws_eqPairS.l0, laws_eqPair.f, bne_self_eq_false, Bool.false_eq_true, if_false, Option.bind_some, d1, d2, if_true, succ64 hi hl]
  exact h
abbrev lHelp := S206
abbrev iHelp := S174
def cHelp (x : lHelp) : iHelp := ⟨x.f0, x.f1, x.f2, x.f3⟩
theorem szHelpS_eq (l : List lHelp) (t : Int) (h0 : 0 ≤ t) (h1 : t ≤ 1048576) (hl : l.length ≤ 9223372036854775807) : laws_szHelpS.f l t = some (lf (l.length : Int) t) := by
 have e : wrap64 (t - (l.length : Int)) = t - l.length := w64 (by omega) (by omega)
 unfold laws_szHelpS.f lf
 rw [e]
 by_cases h : (l.length : Int) ≤ t
 ·rw [if_neg (by omega), if_pos h]
 ·rw [if_pos (by omega), if_neg h]
theorem toHelpS_ev (l : List lHelp) (hl : l.length ≤ 1048576) : Ev (fun k => laws_toHelpS.f k l) (l.map cHelp) := by
 have c1 : (0 : Int) ≤ (l.length : Int) := by omega
 simp only [laws_toHelpS.f, c1, if_true, Int.toNat_natCast]
 refine Ev.pos (by omega) ?_
 refine fill_ev l cHelp z174 (g := fun k s i => laws_toHelpS.l0 k l s i) ?_ ?_
 ·intro s hs
  refine Ev.shift ?_
  simp only [laws_toHelpS.l0, Int.lt_irrefl, if_false]
  exact Ev.now _
 ·intro s i x r hx hs hi h
  have hr : rd_T206 l (i : Int) = x := getD_get hx
  refine Ev.shift ?_
  have d1 : (i : Int) < (l.length : Int) := by omega
  have d2 : (0 : Int) ≤ (i : Int) := by omega
  have d3 : (i : Int) < (s.length : Int) := by omega
  simp only [laws_toHelpS.l0, laws_toHelp.f, Option.bind_some, d1, d2, d3, if_true, hr, Int.toNat_natCast, succ64 hi (by omega)]
  exact h
theorem eqHelpS_ev (l : List iHelp) (hl : l.length ≤ 9223372036854775807) : Ev (fun k => laws_eqHelpS.f k l l) true := by
 simp only [laws_eqHelpS.f, if_true]
 refine look_ev l true (g := fun k i => laws_eqHelpS.l0 k l l i) ?_ ?_
 ·refine Ev.shift ?_
  simp only [laws_eqHelpS.l0, Int.lt_irrefl, if_false]
  exact Ev.now _
 ·intro i x hx hi h
  refine Ev.shift ?_
  have d1 : (i : Int) < (l.length : Int) := by omega
  have d2 : (0 : Int) ≤ (i : Int) := by omega
  simp only [laws_eqHelpS.l0, laws_eqHelp.f, bne_self_eq_false, Bool.false_eq_true, if_false, Option.bind_some, d1, d2, if_true, succ64 hi hl]
  exact h
abbrev lThread := S114
abbrev iThread := S97
def cThread (x : lThread) : iThread := ⟨x.f0.map cOp, x.f1, x.f2, x.f3.map cPair, x.f4.map cHelp⟩
def wtThread (x : lThread) : Int := (x.f0.length : Int) + (x.f3.length + x.f4.length)
def smThread (x : iThread) : Prop := x.f0.length ≤ 1048576 ∧ x.f3.length ≤ 1048576 ∧ x.f4.length ≤ 1048576
theorem wtThread_nn (x : lThread) : 0 ≤ wtThread x := by unfold wtThread; omega
theorem smThread_of (x : lThread) (h : wtThread x ≤ 1048576) : smThread (cThread x) := by
 unfold wtThread at h
 simp only [smThread, cThread, List.length_map]
 omega
theorem szThread_eq (x : lThread) (t : Int) (h0 : 0 ≤ t) (h1 : t ≤ 1048576) (hw : x.f0.length ≤ 9223372036854775807 ∧ x.f3.length ≤ 9223372036854775807 ∧ x.f4.length ≤ 9223372036854775807) : laws_szThread.f x.f0 x.f1 x.f2 x.f3 x.f4 t = some (lf (wtThread x) t) := by
 unfold wtThread
 simp only [laws_szThread.f]
 rw [szOpS_eq _ t h0 h1 hw.1, Option.bind_some]
 refine lf_then (a := (x.f0.length : Int)) (b := (x.f3.length : Int) + x.f4.length) (G := fun u => (laws_szPairS.f x.f3 u).bind fun t103 => (if t103 < 0 then some (-1) else (laws_szHelpS.f x.f4 t103).bind fun t104 => (if t104 < 0 then some (-1) else some t104))) (by omega) (by omega) h1 (fun u u0 u1 => ?_)
 show (laws_szPairS.f x.f3 u).bind _ = _
 rw [szPairS_eq _ u u0 u1 hw.2.1, Option.bind_some]
 exact lf_then (a := (x.f3.length : Int)) (b := (x.f4.length : Int)) (G := fun v => (laws_szHelpS.f x.f4 v).bind fun t104 => (if t104 < 0 then some (-1) else some t104)) (by omega) (by omega) u1 (fun v v0 v1 => by show (laws_szHelpS.f x.f4 v).bind _ = _; rw [szHelpS_eq _ v v0 v1 hw.2.2, Option.bind_some]; exact lf_last (by omega))
theorem toThread_ev (x : lThread) (h : wtThread x ≤ 1048576) : Ev (fun k => laws_toThread.f k x.f0 x.f1 x.f2 x.f3 x.f4) (x.f0.map cOp, x.f1, x.f2, x.f3.map cPair, x.f4.map cHelp) := by
 unfold wtThread at h
 simp only [laws_toThread.f]
 refine Ev.bind (toOpS_ev _ (by omega)) (Ev.bind (toPairS_ev _ (by omega)) (Ev.bind (toHelpS_ev _ (by omega)) (Ev.now _)))
theorem eqThread_ev (x : iThread) (h : smThread x) : Ev (fun k => laws_eqThread.f k x.f0 x.f1 x.f2 x.f3 x.f4 x.f0 x.f1 x.f2 x.f3 x.f4) true := by
 unfold smThread at h
 simp only [laws_eqThread.f]
 refine Ev.bind (eqOpS_ev _ (by omega)) ?_
 simp only [if_true, bne_self_eq_false, Bool.false_eq_true, if_false]
 refine Ev.bind (eqPairS_ev _ (by omega)) ?_
 simp only [if_true]
 refine Ev.bind (eqHelpS_ev _ (by omega)) ?_
 simp only [if_true]
 exact Ev.now _
theorem szThreadS_ev (l : List lThread) (hl : l.length ≤ 9223372036854775807) (hw : ∀ x ∈ l, x.f0.length ≤ 9223372036854775807 ∧ x.f3.length ≤ 9223372036854775807 ∧ x.f4.length ≤ 9223372036854775807) (t : Int) (h0 : 0 ≤ t) (h1 : t ≤ 1048576) : Ev (fun k => laws_szThreadS.f k l t) (lf (l.length + ctl wtThread l) t) := by
 have hc := ctl_nonneg wtThread_nn l
 have e : wrap64 (t - (l.length : Int)) = t - l.length := w64 (by omega) (by omega)
 simp only [laws_szThreadS.f, e]
 by_cases h : (l.length : Int) ≤ t
 ·have c : ¬ (t - (l.length : Int) < 0) := by omega
  simp only [c, if_false]
  have h := size_ev l wtThread wtThread_nn 1048576 (g := fun k t i => laws_szThreadS.l0 k l t i) ?_ ?_ ?_ (t - l.length) (by omega) (by omega)
  ·refine h.to ?_
   unfold lf
   by_cases h2 : ctl wtThread l ≤ t - l.length
   ·rw [if_pos h2, if_pos (by omega)]; omega
   ·rw [if_neg h2, if_neg (by omega)]
  ·intro t
   refine Ev.shift ?_
   simp only [laws_szThreadS.l0, Int.lt_irrefl, if_false]
   exact Ev.now _
  ·intro t i x hx hi h0 h1 hlt
   have hr : rd_T114 l (i : Int) = x := getD_get hx
   have d1 : (i : Int) < (l.length : Int) := by omega
   have d2 : (0 : Int) ≤ (i : Int) := by omega
   refine Ev.shift ?_
   simp only [laws_szThreadS.l0, d1, d2, if_true, hr, szThread_eq x t h0 h1 (hw x (List.mem_of_getElem? hx)), lf_neg (show ¬ wtThread x ≤ t by omega), Option.bind_some, show (-1 : Int) < 0 by decide]
   exact Ev.now _
  ·intro t i x r hx hi h0 h1 hle h
   have hr : rd_T114 l (i : Int) = x := getD_get hx
   have d1 : (i : Int) < (l.length : Int) := by omega
   have d2 : (0 : Int) ≤ (i : Int) := by omega
   have d3 : ¬ (t - wtThread x < 0) := by omega
   refine Ev.shift ?_
   simp only [laws_szThreadS.l0, d1, d2, if_true, hr, szThread_eq x t h0 h1 (hw x (List.mem_of_getElem? hx)), lf_pos hle, Option.bind_some, d3, if_false, succ64 hi hl]
   exact h
 ·have c : t - (l.length : Int) < 0 := by omega
  simp only [c, if_true]
  exact Ev.val (lf_neg (by omega)).symm
theorem toThreadS_ev (l : List lThread) (hl : l.length ≤ 1048576) (hw : ctl wtThread l ≤ 1048576) : Ev (fun k => laws_toThreadS.f k l) (l.map cThread) := by
 have c1 : (0 : Int) ≤ (l.length : Int) := by omega
 simp only [laws_toThreadS.f, c1, if_true, Int.toNat_natCast]
 refine Ev.pos (by omega) ?_
 refine fill_ev l cThread z97 (g := fun k s i => laws_toThreadS.l0 k l s i) ?_ ?_
 ·intro s hs
  refine Ev.shift ?_
  simp only [laws_toThreadS.l0, Int.lt_irrefl, if_false]
  exact Ev.now _
 ·intro s i x r hx hs hi h
  have hr : rd_T114 l (i : Int) = x := getD_get hx
  have hm := ctl_mem wtThread_nn (List.mem_of_getElem? hx)
  refine Ev.shift ?_
  have d1 : (i : Int) < (l.length : Int) := by omega
  have d2 : (0 : Int) ≤ (i : Int) := by omega
  have d3 : (i : Int) < (s.length : Int) := by omega
  simp only [laws_toThreadS.l0, d1, d2, if_true, hr]
  refine Ev.bind (toThread_ev x (by omega)) ?_
  simp only [d3, if_true, Int.toNat_natCast, succ64 hi (by omega)]
  exact h
theorem eqThreadS_ev (l : List iThread) (hl : l.length ≤ 9223372036854775807) (hs : ∀ x ∈ l, smThread x) : Ev (fun k => laws_eqThreadS.f k l l) true := by
 simp only [laws_eqThreadS.f, if_true]
 refine look_ev l true (g := fun k i => laws_eqThreadS.l0 k l l i) ?_ ?_
 ·refine Ev.shift ?_
  simp only [laws_eqThreadS.l0, Int.lt_irrefl, if_false]
  exact Ev.now _
 ·intro i x hx hi h
  have hr : rd_T97 l (i : Int) = x := getD_get hx
  refine Ev.shift ?_
  have d1 : (i : Int) < (l.length : Int) := by omega
  have d2 : (0 : Int) ≤ (i : Int) := by omega
  simp only [laws_eqThreadS.l0, d1, d2, if_true, hr, succ64 hi hl]
  refine Ev.bind (eqThread_ev x (hs x (List.mem_of_getElem? hx))) ?_
  simp only [if_true]
  exact h
abbrev lCall := S119
abbrev iCall := S73
def cCall (x : lCall) : iCall := ⟨x.f0, ⟨x.f1.f0, x.f1.f1, x.f1.f2⟩, x.f2, x.f3, x.f4, ⟨x.f5.f0, x.f5.f1⟩⟩
def wtCall (x : lCall) : Int := (x.f5.f1.length : Int)
def smCall (x : iCall) : Prop := x.f5.f1.length ≤ 1048576
theorem wtCall_nn (x : lCall) : 0 ≤ wtCall x := by unfold wtCall; omega
theorem smCall_of (x : lCall) (h : wtCall x ≤ 1048576) : smCall (cCall x) := by
 unfold wtCall at h
 simp only [smCall, cCall, List.length_map]
 omega
theorem szCall_eq (x : lCall) (t : Int) (h0 : 0 ≤ t) (h1 : t ≤ 1048576) (hw : x.f5.f1.length ≤ 9223372036854775807) : laws_szCall.f x.f0 x.f1.f0 x.f1.f1 x.f1.f2 x.f2 x.f3 x.f4 x.f5.f0 x.f5.f1 t = some (lf (wtCall x) t) := by
 unfold wtCall
 simp only [laws_szCall.f]
 rw [szRes_eq _ _ t h0 h1 hw, Option.bind_some]
 exact lf_last (by omega)
theorem toCall_ev (x : lCall) (h : wtCall x ≤ 1048576) : Ev (fun k => laws_toCall.f k x.f0 x.f1.f0 x.f1.f1 x.f1.f2 x.f2 x.f3 x.f4 x.f5.f0 x.f5.f1) (x.f0, x.f1.f0, x.f1.f1, x.f1.f2, x.f2, x.f3, x.f4, x.f5.f0, x.f5.f1) := by
 unfold wtCall at h
 simp only [laws_toCall.f, laws_toOp.f, Option.bind_some]
 exact Ev.bind (toRes_ev _ _ (by omega)) (Ev.now _)
theorem eqCall_ev (x : iCall) (h : smCall x) : Ev (fun k => laws_eqCall.f k x.f0 x.f1.f0 x.f1.f1 x.f1.f2 x.f2 x.f3 x.f4 x.f5.f0 x.f5.f1 x.f0 x.f1.f0 x.f1.f1 x.f1.f2 x.f2 x.f3 x.f4 x.f5.f0 x.f5.f1) true := by
 unfold smCall at h
 simp only [laws_eqCall.f, laws_eqOp.f, if_true, Option.bind_some]
 refine Ev.bind (eqRes_ev _ _ (by omega)) ?_
 simp only [if_true]
 exact Ev.now _
theorem szCallS_ev (l : List lCall) (hl : l.length ≤ 9223372036854775807) (hw : ∀ x ∈ l, x.f5.f1.length ≤ 9223372036854775807) (t : Int) (h0 : 0 ≤ t) (h1 : t ≤ 1048576) : Ev (fun k => laws_szCallS.f k l t) (lf (l.length + ctl wtCall l) t) := by
 have hc := ctl_nonneg wtCall_nn l
 have e : wrap64 (t - (l.length : Int)) = t - l.length := w64 (by omega) (by omega)
 simp only [laws_szCallS.f, e]
 by_cases h : (l.length : Int) ≤ t
 ·have c : ¬ (t - (l.length : Int) < 0) := by omega
  simp only [c, if_false]
  have h := size_ev l wtCall wtCall_nn 1048576 (g := fun k t i => laws_szCallS.l0 k l t i) ?_ ?_ ?_ (t - l.length) (by omega) (by omega)
  ·refine h.to ?_
   unfold lf
   by_cases h2 : ctl wtCall l ≤ t - l.length
   ·rw [if_pos h2, if_pos (by omega)]; omega
   ·rw [if_neg h2, if_neg (by omega)]
  ·intro t
   refine Ev.shift ?_
   simp only [laws_szCallS.l0, Int.lt_irrefl, if_false]
   exact Ev.now _
  ·intro t i x hx hi h0 h1 hlt
   have hr : rd_T119 l (i : Int) = x := getD_get hx
   have d1 : (i : Int) < (l.length : Int) := by omega
   have d2 : (0 : Int) ≤ (i : Int) := by omega
   refine Ev.shift ?_
   simp only [laws_szCallS.l0, d1, d2, if_true, hr, szCall_eq x t h0 h1 (hw x (List.mem_of_getElem? hx)), lf_neg (show ¬ wtCall x ≤ t by omega), Option.bind_some, show (-1 : Int) < 0 by decide]
   exact Ev.now _
  ·intro t i x r hx hi h0 h1 hle h
   have hr : rd_T119 l (i : Int) = x := getD_get hx
   have d1 : (i : Int) < (l.length : Int) := by omega
   have d2 : (0 : Int) ≤ (i : Int) := by omega
   have d3 : ¬ (t - wtCall x < 0) := by omega
   refine Ev.shift ?_
   simp only [laws_szCallS.l0, d1, d2, if_true, hr, szCall_eq x t h0 h1 (hw x (List.mem_of_getElem? hx)), lf_pos hle, Option.bind_some, d3, if_false, succ64 hi hl]
   exact h
 ·have c : t - (l.length : Int) < 0 := by omega
  simp only [c, if_true]
  exact Ev.val (lf_neg (by omega)).symm
theorem toCallS_ev (l : List lCall) (hl : l.length ≤ 1048576) (hw : ctl wtCall l ≤ 1048576) : Ev (fun k => laws_toCallS.f k l) (l.map cCall) := by
 have c1 : (0 : Int) ≤ (l.length : Int) := by omega
 simp only [laws_toCallS.f, c1, if_true, Int.toNat_natCast]
 refine Ev.pos (by omega) ?_
 refine fill_ev l cCall z73 (g := fun k s i => laws_toCallS.l0 k l s i) ?_ ?_
 ·intro s hs
  refine Ev.shift ?_
  simp only [laws_toCallS.l0, Int.lt_irrefl, if_false]
  exact Ev.now _
 ·intro s i x r hx hs hi h
  have hr : rd_T119 l (i : Int) = x := getD_get hx
  have hm := ctl_mem wtCall_nn (List.mem_of_getElem? hx)
  refine Ev.shift ?_
  have d1 : (i : Int) < (l.length : Int) := by omega
  have d2 : (0 : Int) ≤ (i : Int) := by omega
  have d3 : (i : Int) < (s.length : Int) := by omega
  simp only [laws_toCallS.l0, d1, d2, if_true, hr]
  refine Ev.bind (toCall_ev x (by omega)) ?_
  simp only [d3, if_true, Int.toNat_natCast, succ64 hi (by omega)]
  exact h
theorem eqCallS_ev (l : List iCall) (hl : l.length ≤ 9223372036854775807) (hs : ∀ x ∈ l, smCall x) : Ev (fun k => laws_eqCallS.f k l l) true := by
 simp only [laws_eqCallS.f, if_true]
 refine look_ev l true (g := fun k i => laws_eqCallS.l0 k l l i) ?_ ?_
 ·refine Ev.shift ?_
  simp only [laws_eqCallS.l0, Int.lt_irrefl, if_false]
  exact Ev.now _
 ·intro i x hx hi h
  have hr : rd_T73 l (i : Int) = x := getD_get hx
  refine Ev.shift ?_
  have d1 : (i : Int) < (l.length : Int) := by omega
  have d2 : (0 : Int) ≤ (i : Int) := by omega
  simp only [laws_eqCallS.l0, d1, d2, if_true, hr, succ64 hi hl]
  refine Ev.bind (eqCall_ev x (hs x (List.mem_of_getElem? hx))) ?_
  simp only [if_true]
  exact h
theorem lf_thenE {a b t : Int} {g : Nat → Option Int} {G : Int → Nat → Option Int} (ha : 0 ≤ a) (hb : 0 ≤ b) (ht : t ≤ 1048576) (hg : Ev g (lf a t)) (hG : ∀ u, 0 ≤ u → u ≤ 1048576 → Ev (G u) (lf b u)) : Ev (fun k => (g k).bind fun u => if u < 0 then some (-1) else G u k) (lf (a + b) t) := by
 refine Ev.bind hg ?_
 by_cases h : a ≤ t
 ·rw [lf_pos h]
  refine Ev.neg (by omega) ((hG _ (by omega) (by omega)).to ?_)
  unfold lf
  by_cases h2 : b ≤ t - a
  ·rw [if_pos h2, if_pos (by omega)]; omega
  ·rw [if_neg h2, if_neg (by omega)]
 ·rw [lf_neg h]
  refine Ev.pos (by decide) (Ev.val (lf_neg (by omega)).symm)
theorem lf_lastE {a t : Int} {g : Nat → Option Int} (ha : 0 ≤ a) (hg : Ev g (lf a t)) : Ev (fun k => (g k).bind fun u => if u < 0 then some (-1) else some u) (lf a t) := by
 refine Ev.bind hg ?_
 by_cases h : a ≤ t
 ·rw [lf_pos h]; exact Ev.neg (by omega) (Ev.now _)
 ·rw [lf_neg h]; exact Ev.pos (by decide) (Ev.now _)
def wfDs (d : List lDesc) : Prop := d.length ≤ 9223372036854775807 ∧ ∀ x ∈ d, x.f2.length ≤ 9223372036854775807 ∧ x.f3.f1.length ≤ 9223372036854775807
def wfTs (d : List lThread) : Prop := d.length ≤ 9223372036854775807 ∧ ∀ x ∈ d, x.f0.length ≤ 9223372036854775807 ∧ x.f3.length ≤ 9223372036854775807 ∧ x.f4.length ≤ 9223372036854775807
def wfCs (d : List lCall) : Prop := d.length ≤ 9223372036854775807 ∧ ∀ x ∈ d, x.f5.f1.length ≤ 9223372036854775807
def wtMem (w : List lWord) (d : List lDesc) : Int := (w.length : Int) + (d.length + ctl wtDesc d)
def wtTail (t : List lThread) (c : List lCall) (p q : List Int) : Int := ((t.length : Int) + ctl wtThread t) + (((c.length : Int) + ctl wtCall c) + ((p.length : Int) + q.length))
theorem szMem_ev (w : List lWord) (d : List lDesc) (t : Int) (h0 : 0 ≤ t) (h1 : t ≤ 1048576) (hw : w.length ≤ 9223372036854775807) (hd : wfDs d) : Ev (fun k => laws_szMem.f k w d t) (lf (wtMem w d) t) := by
 have c1 := ctl_nonneg wtDesc_nn d
 simp only [laws_szMem.f]
 exact lf_thenE (G := fun u k => (laws_szDescS.f k d u).bind fun v => if v < 0 then some (-1) else some v) (by omega) (by omega) h1 (Ev.of_eq (szWordS_eq w t h0 h1 hw)) (fun u u0 u1 => lf_lastE (by omega) (szDescS_ev d hd.1 hd.2 u u0 u1))
theorem szMachine_ev (w : List lWord) (d : List lDesc) (t : List lThread) (n : Int) (c : List lCall) (p q : List Int) (s m : Int) (h0 : 0 ≤ m) (h1 : m ≤ 1048576) (hw : w.length ≤ 9223372036854775807) (hd : wfDs d) (ht : wfTs t) (hc : wfCs c) (hp : p.length ≤ 9223372036854775807) (hq : q.length ≤ 9223372036854775807) :
  Ev (fun k => laws_szMachine.f k w d t n c p q s m) (lf (wtMem w d + wtTail t c p q) m) := by
 have c1 := ctl_nonneg wtDesc_nn d
 have c2 := ctl_nonneg wtThread_nn t
 have c3 := ctl_nonneg wtCall_nn c
 simp only [laws_szMachine.f]
 unfold wtTail
 refine lf_thenE (G := fun u k => (laws_szThreadS.f k t u).bind fun v => if v < 0 then some (-1) else (laws_szCallS.f k c v).bind fun x => if x < 0 then some (-1) else (laws_szIntS.f p x).bind fun y => if y < 0 then some (-1) else (laws_szRows.f q s y).bind fun z => if z < 0 then some (-1) else some z) (by unfold wtMem; omega) (by omega) h1 (szMem_ev w d m h0 h1 hw hd) (fun u u0 u1 => ?_)
 refine lf_thenE (G := fun v k => (laws_szCallS.f k c v).bind fun x => if x < 0 then some (-1) else (laws_szIntS.f p x).bind fun y => if y < 0 then some (-1) else (laws_szRows.f q s y).bind fun z => if z < 0 then some (-1) else some z) (by omega) (by omega) u1 (szThreadS_ev t ht.1 ht.2 u u0 u1) (fun v v0 v1 => ?_)
 refine lf_thenE (G := fun x k => (laws_szIntS.f p x).bind fun y => if y < 0 then some (-1) else (laws_szRows.f q s y).bind fun z => if z < 0 then some (-1) else some z) (by omega) (by omega) v1 (szCallS_ev c hc.1 hc.2 v v0 v1) (fun x x0 x1 => ?_)
 refine lf_thenE (G := fun y k => (laws_szRows.f q s y).bind fun z => if z < 0 then some (-1) else some z) (by omega) (by omega) x1 (Ev.of_eq (szIntS_eq p x x0 x1 hp)) (fun y y0 y1 => ?_)
 refine lf_lastE (by omega) (Ev.of_eq ?_)
 simp only [laws_szRows.f]
 rw [szIntS_eq q y y0 y1 hq, Option.bind_some]
 exact lf_last (by omega)
theorem toMachine_ev (w : List lWord) (d : List lDesc) (t : List lThread) (n : Int) (c : List lCall) (p q : List Int) (s : Int) (h : wtMem w d + wtTail t c p q ≤ 1048576) :
  Ev (fun k => laws_toMachine.f k w d t n c p q s) (w.map cWord, d.map cDesc, t.map cThread, n, c.map cCall, p, q, s) := by
 have c1 := ctl_nonneg wtDesc_nn d
 have c2 := ctl_nonneg wtThread_nn t
 have c3 := ctl_nonneg wtCall_nn c
 unfold wtMem wtTail at h
 have hm : Ev (fun k => laws_toMem.f k w d) (w.map cWord, d.map cDesc) := by
  simp only [laws_toMem.f]
  exact Ev.bind (toWordS_ev w (by omega)) (Ev.bind (toDescS_ev d (by omega) (by omega)) (Ev.now _))
 have hr : Ev (fun k => laws_toRows.f k q s) (q, s) := by
  simp only [laws_toRows.f]
  exact Ev.bind (toIntS_ev q (by omega)) (Ev.now _)
 simp only [laws_toMachine.f]
 exact Ev.bind hm (Ev.bind (toThreadS_ev t (by omega) (by omega)) (Ev.bind (toCallS_ev c (by omega) (by omega)) (Ev.bind (toIntS_ev p (by omega)) (Ev.bind hr (Ev.now _)))))
theorem small_all {τ σ : Type} {ct : τ → Int} {f : τ → σ} {sm : σ → Prop} (hn : ∀ x, 0 ≤ ct x) (hs : ∀ x, ct x ≤ 1048576 → sm (f x)) {l : List τ} (h : ctl ct l ≤ 1048576) : ∀ y ∈ l.map f, sm y := fun y hy => by
 obtain ⟨x, hx, rfl⟩ := List.mem_map.mp hy
 exact hs x (Int.le_trans (ctl_mem hn hx) h)
theorem eqMachine_ev (w : List lWord) (d : List lDesc) (t : List lThread) (n : Int) (c : List lCall) (p q : List Int) (s : Int) (h : wtMem w d + wtTail t c p q ≤ 1048576) :
  Ev (fun k => laws_eqMachine.f k (w.map cWord) (d.map cDesc) (t.map cThread) n (c.map cCall) p q s (w.map cWord) (d.map cDesc) (t.map cThread) n (c.map cCall) p q s) true := by
 have c1 := ctl_nonneg wtDesc_nn d
 have c2 := ctl_nonneg wtThread_nn t
 have c3 := ctl_nonneg wtCall_nn c
 unfold wtMem wtTail at h
 have hm : Ev (fun k => laws_eqMem.f k (w.map cWord) (d.map cDesc) (w.map cWord) (d.map cDesc)) true := by
  simp only [laws_eqMem.f]
  refine Ev.bind (eqWordS_ev _ (by rw [List.length_map]; omega)) ?_
  simp only [if_true]
  refine Ev.bind (eqDescS_ev _ (by rw [List.length_map]; omega) (small_all wtDesc_nn smDesc_of (by omega))) ?_
  simp only [if_true]
  exact Ev.now _
 have hr : Ev (fun k => laws_eqRows.f k q s q s) true := by
  simp only [laws_eqRows.f]
  refine Ev.bind (eqIntS_ev q (by omega)) ?_
  simp only [if_true]
  exact Ev.now _
 simp only [laws_eqMachine.f]
 refine Ev.bind hm ?_
 simp only [if_true]
 refine Ev.bind (eqThreadS_ev _ (by rw [List.length_map]; omega) (small_all wtThread_nn smThread_of (by omega))) ?_
 simp only [if_true]
 refine Ev.bind (eqCallS_ev _ (by rw [List.length_map]; omega) (small_all wtCall_nn smCall_of (by omega))) ?_
 simp only [if_true]
 refine Ev.bind (eqIntS_ev p (by omega)) ?_
 simp only [if_true]
 refine Ev.bind hr ?_
 simp only [if_true]
 exact Ev.now _
end Go.Proofs.YtmljebgideecjaaGreat.P2
namespace Go.Proofs.YtmljebgideecjaaGreatW.PrintWords
theorem Ev.rpos {α : Type} {g : Nat → Option α} {c : Prop} [Decidable c] {x y : α} (h : c) (e : Ev g x) : Ev g (if c then x else y) := by rw [if_pos h]; exact e
theorem Ev.rneg {α : Type} {g : Nat → Option α} {c : Prop} [Decidable c] {x y : α} (h : ¬ c) (e : Ev g y) : Ev g (if c then x else y) := by rw [if_neg h]; exact e
end Go.Proofs.YtmljebgideecjaaGreatW.PrintWords
namespace Go.Proofs.YtmljebgideecjaaGreatZ
open Go.RowKit Go.Proofs.YtmljebgideecjaaGreatW.PrintWords
def EvB (g : Nat → Option Bool) (p : Prop) : Prop := ∃ r : Bool, Ev g r ∧ (r = true ↔ p)
section
variable {g f : Nat → Option Bool} {p q : Prop}
theorem EvB.yes (h : Ev g true) (hp : p) : EvB g p := ⟨true, h, iff_of_true rfl hp⟩
theorem EvB.no (h : Ev g false) (hp : ¬ p) : EvB g p := ⟨false, h, iff_of_false (by decide) hp⟩
theorem EvB.iff (h : EvB g p) (e : p ↔ q) : EvB g q := h.elim fun r hr => ⟨r, hr.1, hr.2.trans e⟩
theorem EvB.now {b : Bool} (h : b = true ↔ p) : EvB (fun _ => some b) p := ⟨b, Ev.now _, h⟩
theorem EvB.of_eq {o : Option Bool} {b : Bool} (h : o = some b) (e : b = true ↔ p) : EvB (fun _ => o) p := ⟨b, Ev.of_eq h, e⟩
theorem EvB.shift (h : EvB (fun k => g (k + 1)) p) : EvB g p := h.elim fun r hr => ⟨r, Ev.shift hr.1, hr.2⟩
theorem EvB.pos {c : Prop} [Decidable c] (h : c) (hg : EvB g p) : EvB (fun k => if c then g k else f k) p := hg.elim fun r hr => ⟨r, Ev.pos h hr.1, hr.2⟩
theorem EvB.neg {c : Prop} [Decidable c] (h : ¬ c) (hg : EvB f p) : EvB (fun k => if c then g k else f k) p := hg.elim fun r hr => ⟨r, Ev.neg h hr.1, hr.2⟩
theorem EvB.ite {c : Prop} [Decidable c] (hg : c → EvB g p) (hf : ¬ c → EvB f p) : EvB (fun k => if c then g k else f k) p := by
  by_cases h : c
  · exact EvB.pos h (hg h)
  · exact EvB.neg h (hf h)
theorem EvB.val (h : EvB g p) (hp : p) : Ev g true := h.elim fun r hr => by obtain rfl := hr.2.2 hp; exact hr.1
theorem EvB.nval (h : EvB g p) (hp : ¬ p) : Ev g false := h.elim fun r hr => by
  cases r with
  | false => exact hr.1
  | true => exact absurd (hr.2.1 rfl) hp
end
theorem EvB.then_ {α : Type} {g : Nat → Option Bool} {p : Prop} {F : Nat → Bool → Option α} {r : α} (h : EvB g p) (ht : p → Ev (fun k => F k true) r) (hf : ¬ p → Ev (fun k => F k false) r) : Ev (fun k => (g k).bind (F k)) r := by
  by_cases hp : p
  · exact Ev.bind (h.val hp) (ht hp)
  · exact Ev.bind (h.nval hp) (hf hp)
theorem EvB.bind {g : Nat → Option Bool} {p q : Prop} {F : Nat → Bool → Option Bool} (h : EvB g p) (ht : p → EvB (fun k => F k true) q) (hf : ¬ p → EvB (fun k => F k false) q) : EvB (fun k => (g k).bind (F k)) q := by
  by_cases hp : p
  · obtain ⟨r, h1, h2⟩ := ht hp
    exact ⟨r, Ev.bind (h.val hp) h1, h2⟩
  · obtain ⟨r, h1, h2⟩ := hf hp
    exact ⟨r, Ev.bind (h.nval hp) h1, h2⟩
theorem EvB.at {α : Type} {g : Nat → Option α} {a : α} {q : Prop} {F : Nat → α → Option Bool} (h : Ev g a) (ht : EvB (fun k => F k a) q) : EvB (fun k => (g k).bind (F k)) q := ht.elim fun r hr => ⟨r, Ev.bind h hr.1, hr.2⟩
theorem EvB.loop {n : Nat} {P : Nat → Prop} {Q : Prop} {g : Nat → Nat → Option Bool} (hend : (∀ i, i < n → P i) → EvB (g n) Q)
    (hbad : ∀ i, i < n → (∀ j, j < i → P j) → ¬ P i → Ev (g i) false)
    (hgood : ∀ i, i < n → (∀ j, j < i → P j) → P i → ∀ r, Ev (g (i + 1)) r → Ev (g i) r) : EvB (g 0) ((∀ i, i < n → P i) ∧ Q) := by
  have key : ∀ d i, i + d = n → (∀ j, j < i → P j) → EvB (g i) ((∀ i, i < n → P i) ∧ Q) := by
    intro d
    induction d with
    | zero =>
      intro i hi hp
      obtain rfl : i = n := by omega
      exact (hend hp).iff ⟨fun q => ⟨hp, q⟩, fun a => a.2⟩
    | succ d ih =>
      intro i hi hp
      by_cases h : P i
      · obtain ⟨r, h1, h2⟩ := ih (i + 1) (by omega) (fun j hj => by
          rcases Nat.lt_succ_iff_lt_or_eq.mp hj with a | a
          · exact hp j a
          · rw [a]; exact h)
        exact ⟨r, hgood i (by omega) hp h r h1, h2⟩
      · exact EvB.no (hbad i (by omega) hp h) (fun a => h (a.1 i (by omega)))
  exact key n 0 (by omega) (fun j hj => absurd hj (Nat.not_lt_zero _))
section
variable {τ : Type}
theorem each_iff {xs : List τ} {R : Nat → τ → Prop} : (∀ i, i < xs.length → ∀ x, xs[i]? = some x → R i x) ↔ (∀ i x, xs[i]? = some x → R i x) :=
  ⟨fun h i x hx => h i (List.getElem?_eq_some_iff.mp hx).1 x hx, fun h i _ x hx => h i x hx⟩
theorem each_mem {xs : List τ} {R : τ → Prop} : (∀ (i : Nat) x, xs[i]? = some x → R x) ↔ (∀ x ∈ xs, R x) :=
  ⟨fun h x hx => by obtain ⟨i, hi, e⟩ := List.mem_iff_getElem.mp hx; exact h i x (by rw [← e]; exact List.getElem?_eq_getElem hi), fun h i x (hx : xs[i]? = some x) => h x (List.mem_of_getElem? hx)⟩
theorem EvB.each (xs : List τ) {R : Nat → τ → Prop} {Q : Prop} {g : Nat → Nat → Option Bool} (hend : (∀ i x, xs[i]? = some x → R i x) → EvB (g xs.length) Q)
    (hbad : ∀ i x, xs[i]? = some x → i < xs.length → (∀ j, j < i → ∀ y, xs[j]? = some y → R j y) → ¬ R i x → Ev (g i) false)
    (hgood : ∀ i x, xs[i]? = some x → i < xs.length → (∀ j, j < i → ∀ y, xs[j]? = some y → R j y) → R i x → ∀ r, Ev (g (i + 1)) r → Ev (g i) r) : EvB (g 0) ((∀ i x, xs[i]? = some x → R i x) ∧ Q) := by
  refine (EvB.loop (n := xs.length) (P := fun i => ∀ x, xs[i]? = some x → R i x) (fun h => hend (each_iff.mp h)) (fun i hi hp hn => ?_) (fun i hi hp hr r h => ?_)).iff (by rw [each_iff])
  · refine hbad i xs[i] (List.getElem?_eq_getElem hi) hi hp (fun a => hn fun x hx => ?_)
    rw [List.getElem?_eq_getElem hi] at hx
    obtain rfl := Option.some.inj hx
    exact a
  · exact hgood i xs[i] (List.getElem?_eq_getElem hi) hi hp (hr _ (List.getElem?_eq_getElem hi)) r h
theorem first_ev (xs : List τ) (R : τ → Prop) {g : Nat → Nat → Option Int} (hend : Ev (g xs.length) (-1))
    (hyes : ∀ i x, xs[i]? = some x → i < xs.length → R x → Ev (g i) (i : Int))
    (hno : ∀ i x, xs[i]? = some x → i < xs.length → ¬ R x → ∀ r, Ev (g (i + 1)) r → Ev (g i) r) : ∃ r : Int, Ev (g 0) r ∧ -1 ≤ r ∧ (r ≥ 0 ↔ ∃ x ∈ xs, R x) := by
  have key : ∀ d i, i + d = xs.length → ∃ r : Int, Ev (g i) r ∧ -1 ≤ r ∧ (r ≥ 0 ↔ ∃ x ∈ xs.drop i, R x) := by
    intro d
    induction d with
    | zero =>
      intro i hi
      obtain rfl : i = xs.length := by omega
      refine ⟨-1, hend, by omega, iff_of_false (by omega) ?_⟩
      rw [List.drop_length]
      rintro ⟨x, hx, _⟩
      cases hx
    | succ d ih =>
      intro i hi
      have hil : i < xs.length := by omega
      rw [List.drop_eq_getElem_cons hil]
      by_cases h : R xs[i]
      · exact ⟨i, hyes i xs[i] (List.getElem?_eq_getElem hil) hil h, by omega, iff_of_true (by omega) ⟨_, List.mem_cons_self, h⟩⟩
      · obtain ⟨r, h1, h2, h3⟩ := ih (i + 1) (by omega)
        refine ⟨r, hno i xs[i] (List.getElem?_eq_getElem hil) hil h r h1, h2, h3.trans ?_⟩
        constructor
        · rintro ⟨x, hx, hr⟩; exact ⟨x, List.mem_cons_of_mem _ hx, hr⟩
        · rintro ⟨x, hx, hr⟩
          rcases List.mem_cons.mp hx with a | a
          · rw [a] at hr; exact absurd hr h
          · exact ⟨x, a, hr⟩
  obtain ⟨r, h1, h2, h3⟩ := key xs.length 0 (by omega)
  exact ⟨r, h1, h2, by rw [List.drop_zero] at h3; exact h3⟩
end
end Go.Proofs.YtmljebgideecjaaGreatZ
namespace Go.Proofs.YtmljebgideecjaaGreat.P2
open Go.RowKit Go.Proofs.YtmljebgideecjaaGreatW.PrintWords Go.Proofs.YtmljebgideecjaaGreatW.PrintLast Go.Proofs.YtmljebgideecjaaGreatZ
def keyB (b : Int) : Bool := decide (0 ≤ b ∧ b ≤ 3)
def valB (c : Int) : Bool := decide (1 ≤ c ∧ c ≤ 6)
def clsB (b : Int) : Bool := decide (0 ≤ b ∧ b ≤ 2)
def opOk (a b c : Int) : Bool :=
 if a = 1 then keyB b && valB c else if a = 2 then keyB b && valB c else if a = 3 then keyB b && (c == 0) else if a = 4 then keyB b && (c == 0)
 else if a = 5 then (b == 0) && valB c else if a = 6 then clsB b && (c == 0) else if a = 7 then (b == 0) && (c == 0) else if a = 8 then (b == 0) && (c == 0) else if a = 9 then (b == 0) && (c == 0)
 else if a = 10 then (b == 0) && valB c else false
theorem in_dec (n lo hi : Int) : (if n ≥ lo then some (decide (n ≤ hi)) else some false) = some (decide (lo ≤ n ∧ n ≤ hi)) := by
 by_cases h : n ≥ lo
 ·have h' : lo ≤ n := h
  simp [h, h']
 ·have h' : ¬ lo ≤ n := h
  simp [h, h']
theorem specIn_eq (n lo hi : Int) : spec_l1In.f n lo hi = some (decide (lo ≤ n ∧ n ≤ hi)) := in_dec n lo hi
theorem implFrom_eq (n lo hi : Int) : impl_from.f n lo hi = some (decide (lo ≤ n ∧ n ≤ hi)) := in_dec n lo hi
theorem spec_OpOk_at (a b c : Int) (h : 1 ≤ a ∧ a ≤ 10) (k : Nat) : spec_OpOk.f (k + 1 + 1) a b c = some (opOk a b c) := by
 have h' : a = 1 ∨ a = 2 ∨ a = 3 ∨ a = 4 ∨ a = 5 ∨ a = 6 ∨ a = 7 ∨ a = 8 ∨ a = 9 ∨ a = 10 := by omega
 simp only [spec_OpOk.f, spec_OpOk.j0, spec_OpOk.j1, spec_l4Key.f, spec_l4Val.f, spec_KeyOk.f, spec_ValOk.f, specIn_eq, Option.bind_some, opOk, keyB, valB, clsB]
 generalize decide (0 ≤ b ∧ b ≤ 3) = kb
 generalize decide (1 ≤ c ∧ c ≤ 6) = vc
 generalize decide (0 ≤ b ∧ b ≤ 2) = cb
 generalize (b == 0) = b0
 generalize (c == 0) = c0
 rcases h' with rfl | rfl | rfl | rfl | rfl | rfl | rfl | rfl | rfl | rfl <;> cases kb <;> cases vc <;> cases cb <;> cases b0 <;> cases c0 <;> rfl
theorem spec_OpOk_ev (a b c : Int) : Ev (fun k => spec_OpOk.f k a b c) (opOk a b c) := by
 by_cases h : 1 ≤ a ∧ a ≤ 10
 ·refine Ev.shift (Ev.shift ?_)
  simp only [spec_OpOk_at a b c h]
  exact Ev.now _
 ·have : opOk a b c = false := by
   unfold opOk
   rw [if_neg (by omega), if_neg (by omega), if_neg (by omega), if_neg (by omega), if_neg (by omega), if_neg (by omega), if_neg (by omega), if_neg (by omega), if_neg (by omega), if_neg (by omega)]
  rw [this]
  simp only [spec_OpOk.f, specIn_eq, Option.bind_some, h, decide_false, Bool.false_eq_true, if_false]
  exact Ev.now _
theorem impl_OpOk_at (a b c : Int) (h : 1 ≤ a ∧ a ≤ 10) (k : Nat) : impl_OpOk.f (k + 1 + 1 + 1) a b c = some (opOk a b c) := by
 have h' : a = 1 ∨ a = 2 ∨ a = 3 ∨ a = 4 ∨ a = 5 ∨ a = 6 ∨ a = 7 ∨ a = 8 ∨ a = 9 ∨ a = 10 := by omega
 have e1 : (if b = 0 then some (c == 0) else some false) = some ((b == 0) && (c == 0)) := by by_cases hb : b = 0 <;> simp [hb]
 have e2 : (if b = 0 then some (decide (1 ≤ c ∧ c ≤ 6)) else some false) = some ((b == 0) && decide (1 ≤ c ∧ c ≤ 6)) := by by_cases hb : b = 0 <;> simp [hb]
 simp only [impl_OpOk.f, impl_OpOk.j0, impl_OpOk.j1, impl_OpOk.j2, impl_KeyOk.f, impl_ValOk.f, impl_isClass.f, implFrom_eq, Option.bind_some, opOk, keyB, valB, clsB, e1, e2]
 generalize decide (0 ≤ b ∧ b ≤ 3) = kb
 generalize decide (1 ≤ c ∧ c ≤ 6) = vc
 generalize decide (0 ≤ b ∧ b ≤ 2) = cb
 generalize (b == 0) = b0
 generalize (c == 0) = c0
 rcases h' with rfl | rfl | rfl | rfl | rfl | rfl | rfl | rfl | rfl | rfl <;> cases kb <;> cases vc <;> cases cb <;> cases b0 <;> cases c0 <;> rfl
theorem impl_OpOk_ev (a b c : Int) : Ev (fun k => impl_OpOk.f k a b c) (opOk a b c) := by
 refine Ev.shift (Ev.shift (Ev.shift ?_))
 by_cases h : 1 ≤ a ∧ a ≤ 10
 ·simp only [impl_OpOk_at a b c h]
  exact Ev.now _
 ·have : opOk a b c = false := by
   unfold opOk
   rw [if_neg (by omega), if_neg (by omega), if_neg (by omega), if_neg (by omega), if_neg (by omega), if_neg (by omega), if_neg (by omega), if_neg (by omega), if_neg (by omega), if_neg (by omega)]
  rw [this]
  have h1 : ¬ a = 1 := by omega
  have h2 : ¬ a = 2 := by omega
  have h3 : ¬ a = 3 := by omega
  have h4 : ¬ a = 4 := by omega
  have h5 : ¬ a = 5 := by omega
  have h6 : ¬ a = 6 := by omega
  have h7 : ¬ a = 7 := by omega
  have h8 : ¬ a = 8 := by omega
  have h9 : ¬ a = 9 := by omega
  have h10 : ¬ a = 10 := by omega
  simp only [impl_OpOk.f, impl_OpOk.j0, impl_OpOk.j1, impl_OpOk.j2, h1, h2, h3, h4, h5, h6, h7, h8, h9, h10, beq_iff_eq, if_false]
  exact Ev.now _
def i64in (n : Int) : Prop := -9223372036854775808 ≤ n ∧ n < 9223372036854775808
abbrev mW := S140
abbrev mD := S162
abbrev mE := S165
def entL : List mE → Int → Int × Int × Int × Bool
 | [], _ => (0, 0, 0, false)
 | e :: r, a => if e.f0 = a then (e.f0, e.f1, e.f2, true) else entL r a
def okE (l : List mE) : Prop := ∀ e ∈ l, i64in e.f1 ∧ i64in e.f2
theorem rdE_at {l : List mE} {i : Nat} (h : i < l.length) : rd_T165 l (i : Int) = l[i] := getD_get (List.getElem?_eq_getElem h)
theorem spec_Entries_ev (a b : Int) (l : List mE) (c : Int) (q : List Int) (v : Int) (hl : l.length ≤ 9223372036854775807) : Ev (fun k => spec_Entries.f k a b l c q v) (entL l v) := by
 simp only [spec_Entries.f]
 refine (back (n := l.length) (Q := fun i => Ev (fun k => spec_Entries.l0 k v (i : Int) a b l c q) (entL (l.drop i) v)) ?_ (fun i hi ih => ?_) 0 (Nat.zero_le _))
 ·refine Ev.shift ?_
  simp only [spec_Entries.l0, Int.lt_irrefl, if_false, List.drop_length, entL]
  exact Ev.now _
 ·have c0 : (0 : Int) ≤ (i : Int) := by omega
  have c1 : (i : Int) < (l.length : Int) := by omega
  refine Ev.shift ?_
  rw [List.drop_eq_getElem_cons hi]
  simp only [spec_Entries.l0, c0, c1, if_true, rdE_at hi, entL, succ64 hi hl]
  by_cases h : l[i].f0 = v
  ·simp only [h, if_true]; exact Ev.now _
  ·simp only [h, if_false]; exact ih
theorem impl_Entries_ev (a b : Int) (l : List mE) (c : Int) (q : List Int) (v : Int) (hl : l.length ≤ 9223372036854775807) : Ev (fun k => impl_Entries.f k a b l c q v) (entL l v) := by
 simp only [impl_Entries.f]
 refine (back (n := l.length) (Q := fun i => Ev (fun k => impl_Entries.l0 k v l (l.length : Int) (i : Int)) (entL (l.drop i) v)) ?_ (fun i hi ih => ?_) 0 (Nat.zero_le _))
 ·refine Ev.shift ?_
  simp only [impl_Entries.l0, Int.lt_irrefl, if_false, List.drop_length, entL]
  exact Ev.now _
 ·have c0 : (0 : Int) ≤ (i : Int) := by omega
  have c1 : (i : Int) < (l.length : Int) := by omega
  refine Ev.shift ?_
  rw [List.drop_eq_getElem_cons hi]
  simp only [impl_Entries.l0, c0, c1, if_true, rdE_at hi, entL, succ64 hi hl]
  by_cases h : l[i].f0 = v
  ·simp only [h, if_true]; exact Ev.now _
  ·simp only [h, if_false]; exact ih
def okWs (w : List mW) : Prop := ∀ x ∈ w, i64in x.f0
def okDs (d : List mD) : Prop := ∀ x ∈ d, x.f2.length ≤ 1048576 ∧ okE x.f2
end Go.Proofs.YtmljebgideecjaaGreat.P2
