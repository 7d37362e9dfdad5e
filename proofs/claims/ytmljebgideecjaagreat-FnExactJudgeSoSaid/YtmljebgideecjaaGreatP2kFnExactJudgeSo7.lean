/- A part of the proof of the law FnExactJudgeSo: texts of this seat, merged (words, printed functions of the program, plain lemmas). Conditions: none of its own. -/
import Derived.Test.YtmljebgideecjaaGreatP2kFnExactJudgeSo1
import Derived.Test.YtmljebgideecjaaGreatP2kFnExactJudgeSo4
import Derived.Test.YtmljebgideecjaaGreatP2kFnExactJudgeSo5
import Derived.Test.YtmljebgideecjaaGreatP2kFnExactJudgeSo6
set_option linter.unusedSimpArgs false
set_option linter.unusedVariables false
set_option maxHeartbeats 8000000
set_option maxRecDepth 100000
namespace Go.Proofs.YtmljebgideecjaaGreat.P2
open Go.Proofs.YtmljebgideecjaaGreatZ Go.RowKit Go.Proofs.YtmljebgideecjaaGreatW.PrintWords Go.Proofs.YtmljebgideecjaaGreatW.PrintLast Go.Proofs.YtmljebgideecjaaGreatW.PrintMore
attribute [local go_sem] max2_int min2_int max_two min_two max_three min_three max_four min_four   -- for this text's walks alone
def laws_szThread.f (l0_0 : List (S116)) (a0_1 : Int) (a0_2 : Bool) (l0_3 : List (S204)) (l0_4 : List (S206)) (a1 : Int) : Option (Int) := (laws_szOpS.f l0_0 a1).bind fun t102 => (if t102 < 0 then (some (-1)) else ((laws_szPairS.f l0_3 t102).bind fun t103 => (if t103 < 0 then (some (-1)) else ((laws_szHelpS.f l0_4 t103).bind fun t104 => (if t104 < 0 then (some (-1)) else (some t104))))))
theorem laws_szThread.calls (A0_0 : Option Addr) (c0_0 : Nat) (l0_0 : List (S116)) (a0_1 : Int) (a0_2 : Bool) (A0_3 : Option Addr) (c0_3 : Nat) (l0_3 : List (S204)) (A0_4 : Option Addr) (c0_4 : Nat) (l0_4 : List (S206)) (a1 : Int) (r : Int) (w : World) (hr0_0 : Kd.C k116 w A0_0 l0_0.length l0_0) (hc0_0 : l0_0.length ≤ c0_0) (hr0_3 : Kd.C k204 w A0_3 l0_3.length l0_3) (hc0_3 : l0_3.length ≤ c0_3) (hr0_4 : Kd.C k206 w A0_4 l0_4.length l0_4) (hc0_4 : l0_4.length ≤ c0_4) (h : laws_szThread.f l0_0 a0_1 a0_2 l0_3 l0_4 a1 = some r) :
  Calls Tryz.prog 90 #[.agg #[.slice A0_0 l0_0.length c0_0, .int .i64 a0_1, .bool a0_2, .slice A0_3 l0_3.length c0_3, .slice A0_4 l0_4.length c0_4], .int .i64 a1] w fun e w' => e = .returned (.int .i64 r) ∧ Below w.heap.size w w' := by
 have hu114 := Tryz.underlying114
 have HR0_0 := aM hr0_0
 have HC0_0 := aM hc0_0
 clear hr0_0 hc0_0
 have HR0_3 := aM hr0_3
 have HC0_3 := aM hc0_3
 clear hr0_3 hc0_3
 have HR0_4 := aM hr0_4
 have HC0_4 := aM hc0_4
 clear hr0_4 hc0_4
 have HB := aM (Below.refl w.heap.size w)
 have H := h
 unfold laws_szThread.f at H
 clear h
 replace H := bE H; obtain ⟨t102, A3, H⟩ := H
 go_enter Tryz.func90, Tryz.ntmps90
 go_wp2_with (first | (refine boxE 2 #[.slice A0_0 l0_0.length c0_0, .int .i64 a0_1, .bool a0_2, .slice A0_3 l0_3.length c0_3, .slice A0_4 l0_4.length c0_4] 114 ?_; intro gbz1 hg wz1 hbox hb; have BKz1 := aM (hbox); have GWz1 := aG hg HB; have GEz1 := aG hg HB; replace HB := aS HB hb; clear hb hbox hg; have hczz1 := cZ5 BKz1.out) | (refine gD 62 8 Tryz.func62 (laws_szOpS.calls _ _ _ _ _ _ (cC HR0_0.out HB.out) HC0_0.out A3.out) ?_; intro nd; refine Stop.out ?_))
 refine ⟨?_⟩
 revert H; refine iP (fun c4b0 H => ?_) (fun c4b0 H => ?_)
 ·obtain rfl := sI H
  exact fS
 replace H := bE H; obtain ⟨t103, A7, H⟩ := H
 go_wp2_with (refine gD 153 14 Tryz.func153 (laws_szPairS.calls _ _ _ _ _ _ (cC HR0_3.out HB.out) HC0_3.out A7.out) ?_; intro nd; refine Stop.out ?_)
 refine ⟨?_⟩
 revert H; refine iP (fun c8b0 H => ?_) (fun c8b0 H => ?_)
 ·obtain rfl := sI H
  exact fS
 replace H := bE H; obtain ⟨t104, A11, H⟩ := H
 go_wp2_with (refine gD 154 20 Tryz.func154 (laws_szHelpS.calls _ _ _ _ _ _ (cC HR0_4.out HB.out) HC0_4.out A11.out) ?_; intro nd; refine Stop.out ?_)
 refine ⟨?_⟩
 revert H; refine iP (fun c12b0 H => ?_) (fun c12b0 H => ?_)
 ·obtain rfl := sI H
  exact fS
 exact fR
def laws_szThreadS.l0 : Nat → List (S114) → Int → Int → Option (Int)
 | 0, _, _, _ => none
 | k + 1, x0, x1, x5 => if x5 < (x0.length : Int) then (if 0 ≤ x5 then ((laws_szThread.f ((rd_T114 x0 x5).f0) ((rd_T114 x0 x5).f1) ((rd_T114 x0 x5).f2) ((rd_T114 x0 x5).f3) ((rd_T114 x0 x5).f4) x1).bind fun t102 => (if t102 < 0 then (some (-1)) else (laws_szThreadS.l0 k x0 t102 (wrap64 (x5 + 1))))) else (none)) else (some x1)
def laws_szThreadS.f (k : Nat) (l0 : List (S114)) (a1 : Int) : Option (Int) := if (wrap64 (a1 - (l0.length : Int))) < 0 then (some (-1)) else (laws_szThreadS.l0 k l0 (wrap64 (a1 - (l0.length : Int))) 0)
theorem laws_szThreadS.calls (k : Nat) (A0 : Option Addr) (c0 : Nat) (l0 : List (S114)) (a1 : Int) (r : Int) (w : World) (hr0 : Kd.C k114 w A0 l0.length l0) (hc0 : l0.length ≤ c0) (h : laws_szThreadS.f k l0 a1 = some r) :
  Calls Tryz.prog 39 #[.slice A0 l0.length c0, .int .i64 a1] w fun e w' => e = .returned (.int .i64 r) ∧ Below w.heap.size w w' := by
 have hu114 := Tryz.underlying114
 have HR0 := aM hr0
 have HC0 := aM hc0
 clear hr0 hc0
 have HB := aM (Below.refl w.heap.size w)
 have H := h
 unfold laws_szThreadS.f at H
 clear h
 go_enter Tryz.func39, Tryz.ntmps39
 revert H; refine iP (fun c3b0 H => ?_) (fun c3b0 H => ?_)
 ·obtain rfl := sI H
  exact fS
 have H' := aM H
 clear H
 go_wp2
 go_loopg [1, 5] k (fun kq v1 v5 w' => ∃ (x1_1 : Int) (x5_1 : Int), v1 = .int .i64 x1_1 ∧ v5 = .int .i64 x5_1 ∧ Aside0 (laws_szThreadS.l0 kq l0 x1_1 x5_1 = some r) ∧ Aside0 (kq ≤ k) ∧ Aside0 (Below w.heap.size w w'))
 case atStart => exact ⟨(wrap64 (a1 - (l0.length : Int))), (0), rS, rS, H', ⟨Nat.le_refl _⟩, ⟨(hX HB.out)⟩⟩
 case round =>
  clear H'
  try clear c3b0
  obtain ⟨x1_1, x5_1, rfl, rfl, HA, HKy1, HB⟩ := hrel
  cases gk with
  | zero => exact absurd HA.out (by simp [laws_szThreadS.l0])
  | succ k1 =>
   have H := HA.out
   clear HA
   simp only [laws_szThreadS.l0] at H
   revert H; refine iN (fun c4b0 H => ?_) (fun c4b0 H => ?_)
   ·obtain rfl := sI H
    exact fS
   replace H := ifQ H; obtain ⟨c5b0, H⟩ := H
   replace H := bE H; obtain ⟨t102, A6, H⟩ := H
   obtain ⟨adx1, Ax1, cx1, Ax2, cx2, Ax3, cx3, ex1, px1, qx1, hxx1, HCx1, HRx1, HCx2, HRx2, HCx3, HRx3⟩ := at_T114c HR0 HB x5_1
   cases ex1
   go_wp2_with (refine gB 90 23 Tryz.func90 (laws_szThread.calls _ _ _ _ _ _ _ _ _ _ _ _ _ _ (cC HRx1.out HB.out) HCx1.out (cC HRx2.out HB.out) HCx2.out (cC HRx3.out HB.out) HCx3.out A6.out) ?_; intro wx1 hb; replace HB := aS HB hb; clear hb; refine Stop.out ?_)
   refine ⟨?_⟩
   revert H; refine iP (fun c7b0 H => ?_) (fun c7b0 H => ?_)
   ·obtain rfl := sI H
    exact fS
   have H' := aM H
   clear H
   go_wp2
   go_roundg k1
   case measure => have := HKy1.out; omega
   case rel => exact ⟨(t102), (wrap64 (x5_1 + 1)), rS, rS, H', ⟨by have := HKy1.out; omega⟩, ⟨(hX HB.out)⟩⟩
def laws_szCall.f (a0_0 : Int) (a0_1 : Int) (a0_2 : Int) (a0_3 : Int) (a0_4 : Int) (a0_5 : Int) (a0_6 : Int) (a0_7 : Int) (l0_8 : List Int) (a1 : Int) : Option (Int) := (laws_szRes.f a0_7 l0_8 a1).bind fun t102 => (if t102 < 0 then (some (-1)) else (some t102))
theorem laws_szCall.calls (a0_0 : Int) (a0_1 : Int) (a0_2 : Int) (a0_3 : Int) (a0_4 : Int) (a0_5 : Int) (a0_6 : Int) (a0_7 : Int) (A0_8 : Option Addr) (c0_8 : Nat) (l0_8 : List Int) (a1 : Int) (r : Int) (w : World) (hr0_8 : Kd.C (Kd.int .i64) w A0_8 l0_8.length l0_8) (hc0_8 : l0_8.length ≤ c0_8) (h : laws_szCall.f a0_0 a0_1 a0_2 a0_3 a0_4 a0_5 a0_6 a0_7 l0_8 a1 = some r) :
  Calls Tryz.prog 91 #[.agg #[.int .i64 a0_0, .int .i64 a0_1, .int .i64 a0_2, .int .i64 a0_3, .int .i64 a0_4, .int .i64 a0_5, .int .i64 a0_6, .int .i64 a0_7, .slice A0_8 l0_8.length c0_8], .int .i64 a1] w fun e w' => e = .returned (.int .i64 r) ∧ Below w.heap.size w w' := by
 have hu119 := Tryz.underlying119
 have hu117 := Tryz.underlying117
 have HR0_8 := aM hr0_8
 have HC0_8 := aM hc0_8
 clear hr0_8 hc0_8
 have HB := aM (Below.refl w.heap.size w)
 have H := h
 unfold laws_szCall.f at H
 clear h
 replace H := bE H; obtain ⟨t102, A3, H⟩ := H
 go_enter Tryz.func91, Tryz.ntmps91
 go_wp2_with (first | (refine boxE 2 #[.int .i64 a0_0, .int .i64 a0_1, .int .i64 a0_2, .int .i64 a0_3, .int .i64 a0_4, .int .i64 a0_5, .int .i64 a0_6, .int .i64 a0_7, .slice A0_8 l0_8.length c0_8] 119 ?_; intro gbz1 hg wz1 hbox hb; have BKz1 := aM (hbox); have GWz1 := aG hg HB; have GEz1 := aG hg HB; replace HB := aS HB hb; clear hb hbox hg; have hczz1 := cZ9 BKz1.out) | (refine gB 155 8 Tryz.func155 (laws_szRes.calls _ _ _ _ _ _ _ (cC HR0_8.out HB.out) HC0_8.out A3.out) ?_; intro wz2 hb; replace BKz1 := aB BKz1 hb; replace HB := aS HB hb; clear hb; refine Stop.out ?_))
 refine ⟨?_⟩
 revert H; refine iP (fun c4b0 H => ?_) (fun c4b0 H => ?_)
 ·obtain rfl := sI H
  exact fS
 exact fR
def laws_szCallS.l0 : Nat → List (S119) → Int → Int → Option (Int)
 | 0, _, _, _ => none
 | k + 1, x0, x1, x5 => if x5 < (x0.length : Int) then (if 0 ≤ x5 then ((laws_szCall.f ((rd_T119 x0 x5).f0) ((rd_T119 x0 x5).f1.f0) ((rd_T119 x0 x5).f1.f1) ((rd_T119 x0 x5).f1.f2) ((rd_T119 x0 x5).f2) ((rd_T119 x0 x5).f3) ((rd_T119 x0 x5).f4) ((rd_T119 x0 x5).f5.f0) ((rd_T119 x0 x5).f5.f1) x1).bind fun t102 => (if t102 < 0 then (some (-1)) else (laws_szCallS.l0 k x0 t102 (wrap64 (x5 + 1))))) else (none)) else (some x1)
def laws_szCallS.f (k : Nat) (l0 : List (S119)) (a1 : Int) : Option (Int) := if (wrap64 (a1 - (l0.length : Int))) < 0 then (some (-1)) else (laws_szCallS.l0 k l0 (wrap64 (a1 - (l0.length : Int))) 0)
theorem laws_szCallS.calls (k : Nat) (A0 : Option Addr) (c0 : Nat) (l0 : List (S119)) (a1 : Int) (r : Int) (w : World) (hr0 : Kd.C k119 w A0 l0.length l0) (hc0 : l0.length ≤ c0) (h : laws_szCallS.f k l0 a1 = some r) :
  Calls Tryz.prog 40 #[.slice A0 l0.length c0, .int .i64 a1] w fun e w' => e = .returned (.int .i64 r) ∧ Below w.heap.size w w' := by
 have hu119 := Tryz.underlying119
 have HR0 := aM hr0
 have HC0 := aM hc0
 clear hr0 hc0
 have HB := aM (Below.refl w.heap.size w)
 have H := h
 unfold laws_szCallS.f at H
 clear h
 go_enter Tryz.func40, Tryz.ntmps40
 revert H; refine iP (fun c3b0 H => ?_) (fun c3b0 H => ?_)
 ·obtain rfl := sI H
  exact fS
 have H' := aM H
 clear H
 go_wp2
 go_loopg [1, 5] k (fun kq v1 v5 w' => ∃ (x1_1 : Int) (x5_1 : Int), v1 = .int .i64 x1_1 ∧ v5 = .int .i64 x5_1 ∧ Aside0 (laws_szCallS.l0 kq l0 x1_1 x5_1 = some r) ∧ Aside0 (kq ≤ k) ∧ Aside0 (Below w.heap.size w w'))
 case atStart => exact ⟨(wrap64 (a1 - (l0.length : Int))), (0), rS, rS, H', ⟨Nat.le_refl _⟩, ⟨(hX HB.out)⟩⟩
 case round =>
  clear H'
  try clear c3b0
  obtain ⟨x1_1, x5_1, rfl, rfl, HA, HKy1, HB⟩ := hrel
  cases gk with
  | zero => exact absurd HA.out (by simp [laws_szCallS.l0])
  | succ k1 =>
   have H := HA.out
   clear HA
   simp only [laws_szCallS.l0] at H
   revert H; refine iN (fun c4b0 H => ?_) (fun c4b0 H => ?_)
   ·obtain rfl := sI H
    exact fS
   replace H := ifQ H; obtain ⟨c5b0, H⟩ := H
   replace H := bE H; obtain ⟨t102, A6, H⟩ := H
   obtain ⟨adx1, Ax1, cx1, ex1, px1, qx1, hxx1, HCx1, HRx1⟩ := at_T119c HR0 HB x5_1
   cases ex1
   go_wp2_with (refine gB 91 23 Tryz.func91 (laws_szCall.calls _ _ _ _ _ _ _ _ _ _ _ _ _ _ (cC HRx1.out HB.out) HCx1.out A6.out) ?_; intro wx1 hb; replace HB := aS HB hb; clear hb; refine Stop.out ?_)
   refine ⟨?_⟩
   revert H; refine iP (fun c7b0 H => ?_) (fun c7b0 H => ?_)
   ·obtain rfl := sI H
    exact fS
   have H' := aM H
   clear H
   go_wp2
   go_roundg k1
   case measure => have := HKy1.out; omega
   case rel => exact ⟨(t102), (wrap64 (x5_1 + 1)), rS, rS, H', ⟨by have := HKy1.out; omega⟩, ⟨(hX HB.out)⟩⟩
def laws_szMachine.f (k : Nat) (l0_0 : List (S176)) (l0_1 : List (S155)) (l0_2 : List (S114)) (a0_3 : Int) (l0_4 : List (S119)) (l0_5 : List Int) (l0_6 : List Int) (a0_7 : Int) (a1 : Int) : Option (Int) := (laws_szMem.f k l0_0 l0_1 a1).bind fun t102 => (if t102 < 0 then (some (-1)) else ((laws_szThreadS.f k l0_2 t102).bind fun t103 => (if t103 < 0 then (some (-1)) else ((laws_szCallS.f k l0_4 t103).bind fun t104 => (if t104 < 0 then (some (-1)) else ((laws_szIntS.f l0_5 t104).bind fun t105 => (if t105 < 0 then (some (-1)) else ((laws_szRows.f l0_6 a0_7 t105).bind fun t106 => (if t106 < 0 then (some (-1)) else (some t106))))))))))
theorem laws_szMachine.calls (k : Nat) (A0_0 : Option Addr) (c0_0 : Nat) (l0_0 : List (S176)) (A0_1 : Option Addr) (c0_1 : Nat) (l0_1 : List (S155)) (A0_2 : Option Addr) (c0_2 : Nat) (l0_2 : List (S114)) (a0_3 : Int) (A0_4 : Option Addr) (c0_4 : Nat) (l0_4 : List (S119)) (A0_5 : Option Addr) (c0_5 : Nat) (l0_5 : List Int) (A0_6 : Option Addr) (c0_6 : Nat) (l0_6 : List Int) (a0_7 : Int) (a1 : Int) (r : Int) (w : World) (hr0_0 : Kd.C k176 w A0_0 l0_0.length l0_0) (hc0_0 : l0_0.length ≤ c0_0) (hr0_1 : Kd.C k155 w A0_1 l0_1.length l0_1) (hc0_1 : l0_1.length ≤ c0_1) (hr0_2 : Kd.C k114 w A0_2 l0_2.length l0_2) (hc0_2 : l0_2.length ≤ c0_2) (hr0_4 : Kd.C k119 w A0_4 l0_4.length l0_4) (hc0_4 : l0_4.length ≤ c0_4) (hr0_5 : Kd.C (Kd.int .i64) w A0_5 l0_5.length l0_5) (hc0_5 : l0_5.length ≤ c0_5) (hr0_6 : Kd.C (Kd.int .i64) w A0_6 l0_6.length l0_6) (hc0_6 : l0_6.length ≤ c0_6) (h : laws_szMachine.f k l0_0 l0_1 l0_2 a0_3 l0_4 l0_5 l0_6 a0_7 a1 = some r) :
  Calls Tryz.prog 10 #[.agg #[.slice A0_0 l0_0.length c0_0, .slice A0_1 l0_1.length c0_1, .slice A0_2 l0_2.length c0_2, .int .i64 a0_3, .slice A0_4 l0_4.length c0_4, .slice A0_5 l0_5.length c0_5, .slice A0_6 l0_6.length c0_6, .int .i64 a0_7], .int .i64 a1] w fun e w' => e = .returned (.int .i64 r) ∧ Below w.heap.size w w' := by
 have hu32 := Tryz.underlying32
 have hu25 := Tryz.underlying25
 have hu30 := Tryz.underlying30
 have HR0_0 := aM hr0_0
 have HC0_0 := aM hc0_0
 clear hr0_0 hc0_0
 have HR0_1 := aM hr0_1
 have HC0_1 := aM hc0_1
 clear hr0_1 hc0_1
 have HR0_2 := aM hr0_2
 have HC0_2 := aM hc0_2
 clear hr0_2 hc0_2
 have HR0_4 := aM hr0_4
 have HC0_4 := aM hc0_4
 clear hr0_4 hc0_4
 have HR0_5 := aM hr0_5
 have HC0_5 := aM hc0_5
 clear hr0_5 hc0_5
 have HR0_6 := aM hr0_6
 have HC0_6 := aM hc0_6
 clear hr0_6 hc0_6
 have HB := aM (Below.refl w.heap.size w)
 have H := h
 unfold laws_szMachine.f at H
 clear h
 replace H := bE H; obtain ⟨t102, A3, H⟩ := H
 go_enter Tryz.func10, Tryz.ntmps10
 go_wp2_with (refine boxE 2 #[.slice A0_0 l0_0.length c0_0, .slice A0_1 l0_1.length c0_1, .slice A0_2 l0_2.length c0_2, .int .i64 a0_3, .slice A0_4 l0_4.length c0_4, .slice A0_5 l0_5.length c0_5, .slice A0_6 l0_6.length c0_6, .int .i64 a0_7] 32 ?_; intro gbz1 hg wz1 hbox hb; have BKz1 := aM (hbox); have GWz1 := aG hg HB; have GEz1 := aG hg HB; replace HB := aS HB hb; clear hb hbox hg; have hczz1 := cZ8 BKz1.out; refine Stop.out ?_)
 refine ⟨?_⟩
 revert H; refine iP (fun c4b0 H => ?_) (fun c4b0 H => ?_)
 ·obtain rfl := sI H
  go_wp2_with (refine gB 38 8 Tryz.func38 (laws_szMem.calls _ _ _ _ _ _ _ _ _ _ (cC HR0_0.out HB.out) HC0_0.out (cC HR0_1.out HB.out) HC0_1.out A3.out) ?_; intro wz2 hb; replace BKz1 := aB BKz1 hb; replace HB := aS HB hb; clear hb)
  go_ret
  exact ⟨rE, (hX HB.out)⟩
 replace H := bE H; obtain ⟨t103, A8, H⟩ := H
 go_wp2_with (refine gB 38 8 Tryz.func38 (laws_szMem.calls _ _ _ _ _ _ _ _ _ _ (cC HR0_0.out HB.out) HC0_0.out (cC HR0_1.out HB.out) HC0_1.out A3.out) ?_; intro wz2 hb; replace BKz1 := aB BKz1 hb; replace HB := aS HB hb; clear hb; have hczz9 := cZ8 BKz1.out; refine Stop.out ?_)
 refine ⟨?_⟩
 revert H; refine iP (fun c9b0 H => ?_) (fun c9b0 H => ?_)
 ·obtain rfl := sI H
  go_wp2_with (refine gB 39 14 Tryz.func39 (laws_szThreadS.calls _ _ _ _ _ _ _ (cC HR0_2.out HB.out) HC0_2.out A8.out) ?_; intro wz3 hb; replace BKz1 := aB BKz1 hb; replace HB := aS HB hb; clear hb)
  go_ret
  exact ⟨rE, (hX HB.out)⟩
 replace H := bE H; obtain ⟨t104, A15, H⟩ := H
 go_wp2_with (refine gB 39 14 Tryz.func39 (laws_szThreadS.calls _ _ _ _ _ _ _ (cC HR0_2.out HB.out) HC0_2.out A8.out) ?_; intro wz3 hb; replace BKz1 := aB BKz1 hb; replace HB := aS HB hb; clear hb; have hczz17 := cZ8 BKz1.out; refine Stop.out ?_)
 refine ⟨?_⟩
 revert H; refine iP (fun c16b0 H => ?_) (fun c16b0 H => ?_)
 ·obtain rfl := sI H
  go_wp2_with (refine gB 40 20 Tryz.func40 (laws_szCallS.calls _ _ _ _ _ _ _ (cC HR0_4.out HB.out) HC0_4.out A15.out) ?_; intro wz4 hb; replace BKz1 := aB BKz1 hb; replace HB := aS HB hb; clear hb)
  go_ret
  exact ⟨rE, (hX HB.out)⟩
 replace H := bE H; obtain ⟨t105, A24, H⟩ := H
 go_wp2_with (first | (refine gB 40 20 Tryz.func40 (laws_szCallS.calls _ _ _ _ _ _ _ (cC HR0_4.out HB.out) HC0_4.out A15.out) ?_; intro wz4 hb; replace BKz1 := aB BKz1 hb; replace HB := aS HB hb; clear hb; have hczz25 := cZ8 BKz1.out) | (refine gD 41 26 Tryz.func41 (laws_szIntS.calls _ _ _ _ _ _ (cC HR0_5.out HB.out) HC0_5.out A24.out) ?_; intro nd; refine Stop.out ?_))
 refine ⟨?_⟩
 revert H; refine iP (fun c25b0 H => ?_) (fun c25b0 H => ?_)
 ·obtain rfl := sI H
  exact fS
 replace H := bE H; obtain ⟨t106, A34, H⟩ := H
 go_wp2_with (refine gB 17 32 Tryz.func17 (laws_szRows.calls _ _ _ _ _ _ _ (cC HR0_6.out HB.out) HC0_6.out A34.out) ?_; intro wz5 hb; replace BKz1 := aB BKz1 hb; replace HB := aS HB hb; clear hb; refine Stop.out ?_)
 refine ⟨?_⟩
 revert H; refine iP (fun c35b0 H => ?_) (fun c35b0 H => ?_)
 ·obtain rfl := sI H
  exact fS
 exact fR
def laws_toIntS.l0 : Nat → List Int → List Int → Int → Option (List Int)
 | 0, _, _, _ => none
 | k + 1, x0, x3, x4 => if x4 < (x0.length : Int) then (if 0 ≤ x4 then (if x4 < (x3.length : Int) then (laws_toIntS.l0 k x0 (x3.set (x4 : Int).toNat (rd x0 x4)) (wrap64 (x4 + 1))) else (none)) else (none)) else (some x3)
def laws_toIntS.f (k : Nat) (l0 : List Int) : Option (List Int) := if 0 ≤ (l0.length : Int) then (if ((l0.length : Int) : Int).toNat ≤ 35184372088832 then (laws_toIntS.l0 k l0 (List.replicate ((l0.length : Int) : Int).toNat 0) 0) else (none)) else (none)
theorem laws_toIntS.calls (k : Nat) (A0 : Option Addr) (c0 : Nat) (l0 : List Int) (r : List Int) (w : World) (hr0 : Kd.C (Kd.int .i64) w A0 l0.length l0) (hc0 : l0.length ≤ c0) (h : laws_toIntS.f k l0 = some r) :
  Calls Tryz.prog 47 #[.slice A0 l0.length c0] w fun e w' => ∃ v0_ : Value, e = .returned (v0_) ∧ Kd.R (Kd.int .i64) 3 w' w.heap.size (fun _ => True) v0_ r ∧ Below w.heap.size w w' := by
 have HR0 := aM hr0
 have HC0 := aM hc0
 clear hr0 hc0
 have HB := aM (Below.refl w.heap.size w)
 have H := h
 unfold laws_toIntS.f at H
 clear h
 replace H := ifP H; obtain ⟨c2, H⟩ := H
 have c2b0 := eq_true c2
 have c2b1 := decide_eq_true c2
 clear c2
 replace H := ifP H; obtain ⟨c3, H⟩ := H
 have c3b0 := eq_true c3
 have c3b1 := decide_eq_true c3
 clear c3
 obtain ⟨y101, hy101⟩ : ∃ y_ : List Int, y_ = (List.replicate ((l0.length : Int) : Int).toNat 0) := ⟨_, rfl⟩
 replace H : (laws_toIntS.l0 k l0 y101 0) = some r := yH H hy101
 have Ny101 := aM hy101
 clear hy101
 have H' := aM H
 clear H
 go_enter Tryz.func47, Tryz.ntmps47
 go_wp2_with ((with_reducible refine gate_dst (N := 7) rfl ?_); refine Kd.R_make (Kd.int .i64) _ 3 rfl (N := 7) rfl 28 _ _ rfl (l0.length : Int) rfl rfl Tryz.underlying28 (.int .i64 0) 8 info3 rfl (by decide) (by omega) 0 (ok := fun _ => True) (okp := fun _ => True) rfl (fun _ hk => hk) trivial (odA) (Nat.le_trans (Nat.mul_le_mul_right _ (odA : (l0.length : Int).toNat ≤ 35184372088832)) (by omega)) (Below.refl _ _) (Nat.le_refl _) ?_; intro vz1 wz1 hoz1 hb hg_ hnew_; clear hg_ hnew_; (first | rw [← Ny101.out] at hoz1 | (simp only [Int.reduceToNat] at hoz1; rw [← Ny101.out] at hoz1)); have HOz1 := aM (Kd.R_lower hoz1 (below_size (hX HB.out))); replace HB := aS HB hb; clear hb hoz1)
 go_loopg [4] k (fun kq v4 w' => ∃ (x3_1 : List Int) (x4_1 : Int), v4 = .int .i64 x4_1 ∧ Aside0 (laws_toIntS.l0 kq l0 x3_1 x4_1 = some r) ∧ Aside0 (kq ≤ k) ∧ Aside0 (Kd.R (Kd.int .i64) 3 w' w.heap.size (fun _ => True) vz1 x3_1) ∧ Aside0 (Below w.heap.size w w'))
 case atStart => exact ⟨(y101), (0), rS, H', ⟨Nat.le_refl _⟩, ⟨(rX HOz1.out)⟩, ⟨(hX HB.out)⟩⟩
 case round =>
  clear H'
  try clear c2
  try clear c2b0
  try clear c2b1
  try clear c3
  try clear c3b0
  try clear c3b1
  obtain ⟨x3_1, x4_1, rfl, HA, HKy1, HO_y1, HB⟩ := hrel
  cases gk with
  | zero => exact absurd HA.out (by simp [laws_toIntS.l0])
  | succ k1 =>
   have H := HA.out
   clear HA
   simp only [laws_toIntS.l0] at H
   revert H; refine iN (fun c6b0 H => ?_) (fun c6b0 H => ?_)
   ·obtain rfl := sI H
    go_wp2
    go_ret
    exact ⟨_, rE, (rX HO_y1.out), (hX HB.out)⟩
   replace H := ifQ H; obtain ⟨c7b0, H⟩ := H
   replace H := ifQ H; obtain ⟨c8b0, H⟩ := H
   obtain ⟨y105, hy105⟩ : ∃ y_ : List Int, y_ = (x3_1.set (x4_1 : Int).toNat (rd l0 x4_1)) := ⟨_, rfl⟩
   replace H : (laws_toIntS.l0 k1 l0 y105 (wrap64 (x4_1 + 1))) = some r := yH H hy105
   have Ny105 := aM hy105
   clear hy105
   have H' := aM H
   clear H
   obtain ⟨adx1, ex1, px1, qx1, hxx1⟩ := at_ic HR0 HB x4_1
   cases ex1
   have px2 : 0 ≤ (x4_1 : Int) := odA
   have qx2 : (x4_1 : Int) < ((x3_1.length : Int) : Int) := odA
   obtain ⟨gox1, cox1, eox1, gbx1, glx1, clx1, HGx1⟩ := Kd.R_form HO_y1.out (by omega)
   (first | cases eox1 | (injection eox1 with ea_ en_ ec_; (first | subst ea_ | (injection ea_ with ea_; subst ea_)); subst ec_; clear en_))
   have GBx1 := aM gbx1
   have GGx1 := aM HGx1
   clear gbx1 glx1 HGx1
   obtain ⟨hxx2, hfx1⟩ := Kd.R_celln 0 HO_y1.out (x4_1 : Int) px2 qx2
   replace px2 := eq_true px2
   replace qx2 := eq_true qx2
   have HPx1 := Kd.R_putg HO_y1.out (x4_1 : Int) (rd l0 x4_1)
   go_wp2_with ((with_reducible refine gate_store (t := 3) (p := 20) rfl ?_); refine store_event (t := 3) (p := 20) (v := ?vo_wx1) (w1 := (wr.setCell ⟨gox1, (x4_1 : Int).toNat, none⟩ (.int .i64 (rd l0 x4_1)))) ?hg ?ho ?hn ?hr ?_; (case ho => rfl); (case hg => rfl); (case hn => rfl); (case hr => first | (go_simp; done) | (go_simp; rfl)); intro wx1 hw; have hg : wr.grownBy wx1 (some gox1) := (by rw [hw]; exact HPx1.2); have hp_ : Kd.R (Kd.int .i64) 3 wx1 w.heap.size (fun _ => True) (.slice (some ⟨gox1, 0, none⟩) x3_1.length cox1) y105 := (by rw [hw, Ny105.out]; exact HPx1.1); clear HPx1; replace HO_y1 := aM (hp_); replace HB := aM ((by rw [hw]; exact below_set (HB.out) GBx1.out : Below w.heap.size w wx1)); clear hg hw hp_)
   go_roundg k1
   case measure => have := HKy1.out; omega
   case rel => exact ⟨(y105), (wrap64 (x4_1 + 1)), rS, H', ⟨by have := HKy1.out; omega⟩, ⟨(rX HO_y1.out)⟩, ⟨(hX HB.out)⟩⟩
def laws_toRows.f (k : Nat) (l0_0 : List Int) (a0_1 : Int) : Option (List Int × Int) := (laws_toIntS.f k l0_0).bind fun t104 => (some (t104, a0_1))
theorem laws_toRows.calls (k : Nat) (A0_0 : Option Addr) (c0_0 : Nat) (l0_0 : List Int) (a0_1 : Int) (r1 : List Int) (r2 : Int) (w : World) (hr0_0 : Kd.C (Kd.int .i64) w A0_0 l0_0.length l0_0) (hc0_0 : l0_0.length ≤ c0_0) (h : laws_toRows.f k l0_0 a0_1 = some (r1, r2)) :
  Calls Tryz.prog 20 #[.agg #[.slice A0_0 l0_0.length c0_0, .int .i64 a0_1]] w fun e w' => ∃ v0_ : Value, e = .returned (.agg #[v0_, .int .i64 r2]) ∧ Kd.R (Kd.int .i64) 3 w' w.heap.size (fun _ => True) v0_ r1 ∧ Below w.heap.size w w' := by
 have hu30 := Tryz.underlying30
 have hu41 := Tryz.underlying41
 have HR0_0 := aM hr0_0
 have HC0_0 := aM hc0_0
 clear hr0_0 hc0_0
 have HB := aM (Below.refl w.heap.size w)
 have H := h
 unfold laws_toRows.f at H
 clear h
 replace H := bE H; obtain ⟨t104, A2, H⟩ := H
 simp only [Option.some.injEq, Prod.mk.injEq] at H
 obtain ⟨rfl, rfl⟩ := H
 go_enter Tryz.func20, Tryz.ntmps20
 go_wp2_with (first | (refine boxE 1 #[.slice A0_0 l0_0.length c0_0, .int .i64 a0_1] 30 ?_; intro gbz1 hg wz1 hbox hb; have BKz1 := aM (hbox); have GWz1 := aG hg HB; have GEz1 := aG hg HB; replace HB := aS HB hb; clear hb hbox hg) | (refine boxE 2 #[.slice none 0 0, .int .i64 0] 41 ?_; intro gbz2 hg wz2 hbox hb; have BKz2 := aM (hbox); have GWz2 := aG hg HB; have GEz2 := aG hg HB; have NBz1 := aL hg BKz1; have NBz2 := aR hg BKz1; replace BKz1 := aB BKz1 hb; replace HB := aS HB hb; clear hb hbox hg) | (refine boxE 3 #[.slice none 0 0, .int .i64 0] 41 ?_; intro gbz3 hg wz3 hbox hb; have BKz3 := aM (hbox); have GWz3 := aG hg HB; have GEz3 := aG hg HB; have NBz3 := aL hg BKz1; have NBz4 := aR hg BKz1; have NBz5 := aL hg BKz2; have NBz6 := aR hg BKz2; replace BKz1 := aB BKz1 hb; replace BKz2 := aB BKz2 hb; replace HB := aS HB hb; clear hb hbox hg; have hnbz1 := NBz1.out; have hncz1 := NBz2.out; have hnbz2 := NBz3.out; have hncz2 := NBz4.out; have hczz1 := cZ2 BKz1.out) | (refine goesM 47 6 Tryz.func47 #[.slice A0_0 l0_0.length c0_0] ?_; refine (laws_toIntS.calls _ _ _ _ _ _ (cC HR0_0.out HB.out) HC0_0.out A2.out).mono ?_; rintro e wz4 ⟨vz1, rfl, hoz1, hb⟩; refine ⟨_, rfl, ?_⟩; have HOz1 := aM (Kd.R_lower hoz1 (below_size (hX HB.out))); replace BKz1 := aB BKz1 hb; replace BKz2 := aB BKz2 hb; replace BKz3 := aB BKz3 hb; replace HB := aS HB hb; clear hb hoz1; obtain ⟨Aoz1, coz1, eoz1⟩ := Kd.R_slice HOz1.out; subst eoz1; have hnbz3 := NBz6.out; have hncz3 := NBz5.out; have hczz3 := cZ2 BKz3.out; have hczz5 := cZ2 BKz1.out; have hczz7 := cZ2 BKz2.out))
 refine bodyPost_ret (results_cell_row rfl _ _ gbz2 41 #[.slice Aoz1 t104.length coz1, .int .i64 a0_1] (0, 0) _ rfl (bP BKz2.out) Tryz.underlying41 rfl (by kernel_rfl)) rfl ?_
 exact ⟨_, rE, (rT (h := by exact Kd.R_mono (Kd.R_far (p := ⟨gbz2, 1, none⟩) (Kd.R_far (p := ⟨gbz2, 0, none⟩) (Kd.R_far (p := ⟨gbz3, 1, none⟩) (Kd.R_far (p := ⟨gbz3, 0, none⟩) (Kd.R_types (Kd.R_types HOz1.out BKz3.out (by decide)) BKz2.out (by decide)) (fun _ hk => hk.1.2) (.slice Aoz1 t104.length coz1)) (fun _ hk => hk.1.2) (.int .i64 a0_1)) (fun _ hk => hk.2) (.slice Aoz1 t104.length coz1)) (fun _ hk => hk.2) (.int .i64 a0_1)) (fun _ hk => trivial))), (hX HB.out)⟩
def laws_toWord.f (a0_0 : Int) (a0_1 : Int) (a0_2 : Int) : Option (Int × Int × Int) := some (a0_0, a0_1, a0_2)
theorem laws_toWord.calls (a0_0 : Int) (a0_1 : Int) (a0_2 : Int) (r1 : Int) (r2 : Int) (r3 : Int) (w : World) (h : laws_toWord.f a0_0 a0_1 a0_2 = some (r1, r2, r3)) :
  Calls Tryz.prog 164 #[.agg #[.int .i64 a0_0, .int .i64 a0_1, .int .i64 a0_2]] w fun e w' => e = .returned (.agg #[.int .i64 r1, .int .i64 r2, .int .i64 r3]) ∧ Below w.heap.size w w' := by
 have hu176 := Tryz.underlying176
 have hu140 := Tryz.underlying140
 have HB := aM (Below.refl w.heap.size w)
 have H := h
 unfold laws_toWord.f at H
 clear h
 simp only [Option.some.injEq, Prod.mk.injEq] at H
 obtain ⟨rfl, rfl, rfl⟩ := H
 go_enter Tryz.func164, Tryz.ntmps164
 go_wp2_with (first | (refine boxE 1 #[.int .i64 a0_0, .int .i64 a0_1, .int .i64 a0_2] 176 ?_; intro gbz1 hg wz1 hbox hb; have BKz1 := aM (hbox); have GWz1 := aG hg HB; have GEz1 := aG hg HB; replace HB := aS HB hb; clear hb hbox hg) | (refine boxE 2 #[.int .i64 0, .int .i64 0, .int .i64 0] 140 ?_; intro gbz2 hg wz2 hbox hb; have BKz2 := aM (hbox); have GWz2 := aG hg HB; have GEz2 := aG hg HB; have NBz1 := aL hg BKz1; have NBz2 := aR hg BKz1; replace BKz1 := aB BKz1 hb; replace HB := aS HB hb; clear hb hbox hg) | (refine boxE 3 #[.int .i64 0, .int .i64 0, .int .i64 0] 140 ?_; intro gbz3 hg wz3 hbox hb; have BKz3 := aM (hbox); have GWz3 := aG hg HB; have GEz3 := aG hg HB; have NBz3 := aL hg BKz1; have NBz4 := aR hg BKz1; have NBz5 := aL hg BKz2; have NBz6 := aR hg BKz2; replace BKz1 := aB BKz1 hb; replace BKz2 := aB BKz2 hb; replace HB := aS HB hb; clear hb hbox hg; have hnbz1 := NBz1.out; have hncz1 := NBz2.out; have hnbz2 := NBz3.out; have hncz2 := NBz4.out; have hczz1 := cZ3 BKz1.out; have hnbz3 := NBz6.out; have hncz3 := NBz5.out; have hczz4 := cZ3 BKz3.out; have hczz7 := cZ3 BKz2.out))
 refine bodyPost_ret (results_cell_row rfl _ _ gbz2 140 #[.int .i64 a0_0, .int .i64 a0_1, .int .i64 a0_2] (0, 0) _ rfl (bP BKz2.out) Tryz.underlying140 rfl (by kernel_rfl)) rfl ?_
 exact ⟨rE, (hX HB.out)⟩
def laws_toWordS.l0 : Nat → List (S176) → List (S140) → Int → Option ((List (S140)))
 | 0, _, _, _ => none
 | k + 1, x0, x3, x4 => if x4 < (x0.length : Int) then (if 0 ≤ x4 then ((laws_toWord.f ((rd_T176 x0 x4).f0) ((rd_T176 x0 x4).f1) ((rd_T176 x0 x4).f2)).bind fun bt105 => (if x4 < (x3.length : Int) then (laws_toWordS.l0 k x0 (x3.set (x4 : Int).toNat (⟨bt105.1, bt105.2.1, bt105.2.2⟩ : S140)) (wrap64 (x4 + 1))) else (none))) else (none)) else (some x3)
def laws_toWordS.f (k : Nat) (l0 : List (S176)) : Option ((List (S140))) := if 0 ≤ (l0.length : Int) then (if ((l0.length : Int) : Int).toNat ≤ 11728124029610 then (laws_toWordS.l0 k l0 (List.replicate ((l0.length : Int) : Int).toNat z140) 0) else (none)) else (none)
theorem laws_toWordS.calls (k : Nat) (A0 : Option Addr) (c0 : Nat) (l0 : List (S176)) (r : List (S140)) (w : World) (hr0 : Kd.C k176 w A0 l0.length l0) (hc0 : l0.length ≤ c0) (h : laws_toWordS.f k l0 = some r) :
  Calls Tryz.prog 97 #[.slice A0 l0.length c0] w fun e w' => ∃ v0_ : Value, e = .returned (v0_) ∧ Kd.R k140 140 w' w.heap.size (fun _ => True) v0_ r ∧ Below w.heap.size w w' := by
 have hu176 := Tryz.underlying176
 have hu140 := Tryz.underlying140
 have HR0 := aM hr0
 have HC0 := aM hc0
 clear hr0 hc0
 have HB := aM (Below.refl w.heap.size w)
 have H := h
 unfold laws_toWordS.f at H
 clear h
 replace H := ifP H; obtain ⟨c2, H⟩ := H
 have c2b0 := eq_true c2
 have c2b1 := decide_eq_true c2
 clear c2
 replace H := ifP H; obtain ⟨c3, H⟩ := H
 have c3b0 := eq_true c3
 have c3b1 := decide_eq_true c3
 clear c3
 obtain ⟨y101, hy101⟩ : ∃ y_ : List (S140), y_ = (List.replicate ((l0.length : Int) : Int).toNat z140) := ⟨_, rfl⟩
 replace H : (laws_toWordS.l0 k l0 y101 0) = some r := yH H hy101
 have Ny101 := aM hy101
 clear hy101
 have H' := aM H
 clear H
 go_enter Tryz.func97, Tryz.ntmps97
 go_wp2_with ((with_reducible refine gate_dst (N := 7) rfl ?_); refine Kd.R_make k140 _ 140 rfl (N := 7) rfl 35 _ _ rfl (l0.length : Int) rfl rfl Tryz.underlying35 (.agg #[(.int .i64 0), (.int .i64 0), (.int .i64 0)]) 24 info140 rfl (by decide) (by omega) z140 (ok := fun _ => True) (okp := fun _ => True) (k140_mkM _ _ _ z140 ) (fun _ hk => hk) trivial (odA) (Nat.le_trans (Nat.mul_le_mul_right _ (odA : (l0.length : Int).toNat ≤ 11728124029610)) (by omega)) (Below.refl _ _) (Nat.le_refl _) ?_; intro vz1 wz1 hoz1 hb hg_ hnew_; clear hg_ hnew_; (first | rw [← Ny101.out] at hoz1 | (simp only [Int.reduceToNat] at hoz1; rw [← Ny101.out] at hoz1)); have HOz1 := aM (Kd.R_lower hoz1 (below_size (hX HB.out))); replace HB := aS HB hb; clear hb hoz1)
 go_loopg [4] k (fun kq v4 w' => ∃ (x3_1 : List (S140)) (x4_1 : Int), v4 = .int .i64 x4_1 ∧ Aside0 (laws_toWordS.l0 kq l0 x3_1 x4_1 = some r) ∧ Aside0 (kq ≤ k) ∧ Aside0 (Kd.R k140 140 w' w.heap.size (fun _ => True) vz1 x3_1) ∧ Aside0 (Below w.heap.size w w'))
 case atStart => exact ⟨(y101), (0), rS, H', ⟨Nat.le_refl _⟩, ⟨(rX HOz1.out)⟩, ⟨(hX HB.out)⟩⟩
 case round =>
  clear H'
  try clear c2
  try clear c2b0
  try clear c2b1
  try clear c3
  try clear c3b0
  try clear c3b1
  obtain ⟨x3_1, x4_1, rfl, HA, HKy1, HO_y1, HB⟩ := hrel
  cases gk with
  | zero => exact absurd HA.out (by simp [laws_toWordS.l0])
  | succ k1 =>
   have H := HA.out
   clear HA
   simp only [laws_toWordS.l0] at H
   revert H; refine iN (fun c6b0 H => ?_) (fun c6b0 H => ?_)
   ·obtain rfl := sI H
    go_wp2
    go_ret
    exact ⟨_, rE, (rX HO_y1.out), (hX HB.out)⟩
   replace H := ifQ H; obtain ⟨c7b0, H⟩ := H
   replace H := bE H; obtain ⟨⟨t105, t106, t107⟩, A8, H⟩ := H
   try dsimp only at H
   replace H := ifQ H; obtain ⟨c9b0, H⟩ := H
   obtain ⟨y108, hy108⟩ : ∃ y_ : List (S140), y_ = (x3_1.set (x4_1 : Int).toNat (⟨t105, t106, t107⟩ : S140)) := ⟨_, rfl⟩
   replace H : (laws_toWordS.l0 k1 l0 y108 (wrap64 (x4_1 + 1))) = some r := yH H hy108
   have Ny108 := aM hy108
   clear hy108
   have H' := aM H
   clear H
   obtain ⟨adx1, ex1, px1, qx1, hxx1⟩ := at_T176c HR0 HB x4_1
   cases ex1
   go_wp2_with (first | (refine gB 164 20 Tryz.func164 (laws_toWord.calls _ _ _ _ _ _ _ A8.out) ?_; intro wx1 hb; replace HO_y1 := aQ HO_y1 hb; replace HB := aS HB hb; clear hb; have px2 : 0 ≤ (x4_1 : Int) := odA; have qx2 : (x4_1 : Int) < ((x3_1.length : Int) : Int) := odA; obtain ⟨gox1, cox1, eox1, gbx1, glx1, clx1, HGx1⟩ := Kd.R_form HO_y1.out (by omega); (first | cases eox1 | (injection eox1 with ea_ en_ ec_; (first | subst ea_ | (injection ea_ with ea_; subst ea_)); subst ec_; clear en_)); have GBx1 := aM gbx1; have GGx1 := aM HGx1; clear gbx1 glx1 HGx1; obtain ⟨cex1, hclx1, hMx1, hccx1, hfrx1⟩ := Kd.R_elem HO_y1.out z140 (x4_1 : Int) px2 qx2; obtain rfl := k140_openM hMx1; have hxx4 : wx1.cell? ⟨gox1, (x4_1 : Int).toNat * 3, none⟩ = some (.int .i64 ((rd_T140 x3_1 x4_1).f0)) := hccx1 0 _ rfl; have hxx5 : wx1.cell? ⟨gox1, (x4_1 : Int).toNat * 3 + 1, none⟩ = some (.int .i64 ((rd_T140 x3_1 x4_1).f1)) := hccx1 1 _ rfl; have hxx6 : wx1.cell? ⟨gox1, (x4_1 : Int).toNat * 3 + 2, none⟩ = some (.int .i64 ((rd_T140 x3_1 x4_1).f2)) := hccx1 2 _ rfl; have hfx1 : wx1.frozen? ⟨gox1, (x4_1 : Int).toNat * 3, none⟩ = false := hfrx1 0; have hfx2 : wx1.frozen? ⟨gox1, (x4_1 : Int).toNat * 3 + 1, none⟩ = false := hfrx1 1; have hfx3 : wx1.frozen? ⟨gox1, (x4_1 : Int).toNat * 3 + 2, none⟩ = false := hfrx1 2; clear hclx1 hccx1 hfrx1 hMx1; replace px2 := eq_true px2; replace qx2 := eq_true qx2; have HXx1 := aM (show Kd.R k140 140 wx1 w.heap.size (fun _ => True) (.slice (some ⟨gox1, 0, none⟩) x3_1.length cox1) x3_1 from (rX HO_y1.out)); obtain ⟨cex2, hclx2, hMx2, hccx2, hfrx2⟩ := Kd.R_elem HXx1.out z140 (x4_1 : Int) (odA) (by have h_ : (x4_1 : Int) < ((x3_1.length : Int) : Int) := odA; first | exact h_ | (have e_ := (Kd.R_reads' HO_y1.out).1; omega) | simpa using h_); obtain rfl := k140_openM hMx2; have HPx1 := Kd.R_seg HXx1.out (x4_1 : Int) (odA) (by have h_ : (x4_1 : Int) < ((x3_1.length : Int) : Int) := odA; first | exact h_ | (have e_ := (Kd.R_reads' HO_y1.out).1; omega) | simpa using h_) (seg := [.int .i64 t105, .int .i64 t106, .int .i64 t107]) (j := 0) hclx2 hccx2 (show 3 ≤ 3 from by decide) (x' := (⟨t105, t106, t107⟩ : S140)) (k140_mkM _ _ _ (⟨t105, t106, t107⟩ : S140) ) (fun _ hk => hk); have hxx7 := hccx2 0 _ rfl; (try simp only [show (k140).sz = 3 from rfl, Nat.mul_one, Nat.add_zero] at hxx7); have hfx4 := hfrx2 0; (try simp only [show (k140).sz = 3 from rfl, Nat.mul_one, Nat.add_zero] at hfx4); have hxx8 := hccx2 1 _ rfl; (try simp only [show (k140).sz = 3 from rfl, Nat.mul_one, Nat.add_zero] at hxx8); have hfx5 := hfrx2 1; (try simp only [show (k140).sz = 3 from rfl, Nat.mul_one, Nat.add_zero] at hfx5); have hxx9 := hccx2 2 _ rfl; (try simp only [show (k140).sz = 3 from rfl, Nat.mul_one, Nat.add_zero] at hxx9); have hfx6 := hfrx2 2; (try simp only [show (k140).sz = 3 from rfl, Nat.mul_one, Nat.add_zero] at hfx6); clear hclx2 hccx2 hfrx2 hMx2) | ((with_reducible refine gate_store (t := 140) (p := 21) rfl ?_); refine store_event (t := 140) (p := 21) (v := ?vo_wx2) (w1 := (((wx1.setCell ⟨gox1, (x4_1 : Int).toNat * 3, none⟩ (.int .i64 t105)).setCell ⟨gox1, (x4_1 : Int).toNat * 3 + 1, none⟩ (.int .i64 t106)).setCell ⟨gox1, (x4_1 : Int).toNat * 3 + 2, none⟩ (.int .i64 t107))) ?hg ?ho ?hn ?hr ?_; (case ho => rfl); (case hg => rfl); (case hn => rfl); (case hr => first | (go_simp; done) | (go_simp; rfl)); intro wx2 hw; have hg : wx1.grownBy wx2 (some gox1) := (by rw [hw]; exact HPx1.2); have hp_ : Kd.R k140 140 wx2 w.heap.size (fun _ => True) (.slice (some ⟨gox1, 0, none⟩) x3_1.length cox1) y108 := (by rw [hw, Ny108.out]; exact HPx1.1); clear HPx1; replace HO_y1 := aM (hp_); replace HB := aM ((by rw [hw]; exact below_set (below_set (below_set (HB.out) GBx1.out) GBx1.out) GBx1.out : Below w.heap.size w wx2)); clear hg hw hp_))
   go_roundg k1
   case measure => have := HKy1.out; omega
   case rel => exact ⟨(y108), (wrap64 (x4_1 + 1)), rS, H', ⟨by have := HKy1.out; omega⟩, ⟨(rX HO_y1.out)⟩, ⟨(hX HB.out)⟩⟩
def laws_toRes.f (k : Nat) (a0_0 : Int) (l0_1 : List Int) : Option (Int × List Int) := (laws_toIntS.f k l0_1).bind fun t104 => (some (a0_0, t104))
theorem laws_toRes.calls (k : Nat) (a0_0 : Int) (A0_1 : Option Addr) (c0_1 : Nat) (l0_1 : List Int) (r1 : Int) (r2 : List Int) (w : World) (hr0_1 : Kd.C (Kd.int .i64) w A0_1 l0_1.length l0_1) (hc0_1 : l0_1.length ≤ c0_1) (h : laws_toRes.f k a0_0 l0_1 = some (r1, r2)) :
  Calls Tryz.prog 168 #[.agg #[.int .i64 a0_0, .slice A0_1 l0_1.length c0_1]] w fun e w' => ∃ v1_ : Value, e = .returned (.agg #[.int .i64 r1, v1_]) ∧ Kd.R (Kd.int .i64) 3 w' w.heap.size (fun _ => True) v1_ r2 ∧ Below w.heap.size w w' := by
 have hu117 := Tryz.underlying117
 have hu71 := Tryz.underlying71
 have HR0_1 := aM hr0_1
 have HC0_1 := aM hc0_1
 clear hr0_1 hc0_1
 have HB := aM (Below.refl w.heap.size w)
 have H := h
 unfold laws_toRes.f at H
 clear h
 replace H := bE H; obtain ⟨t104, A2, H⟩ := H
 simp only [Option.some.injEq, Prod.mk.injEq] at H
 obtain ⟨rfl, rfl⟩ := H
 go_enter Tryz.func168, Tryz.ntmps168
 go_wp2_with (first | (refine boxE 1 #[.int .i64 a0_0, .slice A0_1 l0_1.length c0_1] 117 ?_; intro gbz1 hg wz1 hbox hb; have BKz1 := aM (hbox); have GWz1 := aG hg HB; have GEz1 := aG hg HB; replace HB := aS HB hb; clear hb hbox hg) | (refine boxE 2 #[.int .i64 0, .slice none 0 0] 71 ?_; intro gbz2 hg wz2 hbox hb; have BKz2 := aM (hbox); have GWz2 := aG hg HB; have GEz2 := aG hg HB; have NBz1 := aL hg BKz1; have NBz2 := aR hg BKz1; replace BKz1 := aB BKz1 hb; replace HB := aS HB hb; clear hb hbox hg) | (refine boxE 3 #[.int .i64 0, .slice none 0 0] 71 ?_; intro gbz3 hg wz3 hbox hb; have BKz3 := aM (hbox); have GWz3 := aG hg HB; have GEz3 := aG hg HB; have NBz3 := aL hg BKz1; have NBz4 := aR hg BKz1; have NBz5 := aL hg BKz2; have NBz6 := aR hg BKz2; replace BKz1 := aB BKz1 hb; replace BKz2 := aB BKz2 hb; replace HB := aS HB hb; clear hb hbox hg; have hnbz1 := NBz1.out; have hncz1 := NBz2.out; have hnbz2 := NBz3.out; have hncz2 := NBz4.out; have hczz1 := cZ2 BKz1.out; have hnbz3 := NBz6.out; have hncz3 := NBz5.out; have hczz3 := cZ2 BKz3.out) | (refine goesM 47 9 Tryz.func47 #[.slice A0_1 l0_1.length c0_1] ?_; refine (laws_toIntS.calls _ _ _ _ _ _ (by exact Kd.C_below HR0_1.out (hX HB.out)) HC0_1.out A2.out).mono ?_; rintro e wz4 ⟨vz1, rfl, hoz1, hb⟩; refine ⟨_, rfl, ?_⟩; have HOz1 := aM (Kd.R_lower hoz1 (below_size (hX HB.out))); replace BKz1 := aF BKz1 hb; replace BKz2 := aF BKz2 hb; replace BKz3 := aM (blk_below (g := gbz3) (o := .cells #[.int .i64 a0_0, .slice none 0 0] 71 (0, 0)) (bP BKz3.out) hb); replace HB := aS HB hb; clear hb hoz1; obtain ⟨Aoz1, coz1, eoz1⟩ := Kd.R_slice HOz1.out; subst eoz1; have hczz5 := cZ2 BKz3.out; have hczz7 := cZ2 BKz2.out))
 refine bodyPost_ret (results_cell_row rfl _ _ gbz2 71 #[.int .i64 a0_0, .slice Aoz1 t104.length coz1] (0, 0) _ rfl (bP BKz2.out) Tryz.underlying71 rfl (by kernel_rfl)) rfl ?_
 exact ⟨_, rE, (rT (h := by exact Kd.R_mono (Kd.R_far (p := ⟨gbz2, 1, none⟩) (Kd.R_far (p := ⟨gbz2, 0, none⟩) (Kd.R_far (p := ⟨gbz3, 1, none⟩) (Kd.R_types (Kd.R_types HOz1.out BKz3.out (by decide)) BKz2.out (by decide)) (fun _ hk => hk.1.2) (.slice Aoz1 t104.length coz1)) (fun _ hk => hk.2) (.int .i64 a0_0)) (fun _ hk => hk.2) (.slice Aoz1 t104.length coz1)) (fun _ hk => trivial))), (hX HB.out)⟩
def laws_toEntry.f (a0_0 : Int) (a0_1 : Int) (a0_2 : Int) : Option (Int × Int × Int) := some (a0_0, a0_1, a0_2)
theorem laws_toEntry.calls (a0_0 : Int) (a0_1 : Int) (a0_2 : Int) (r1 : Int) (r2 : Int) (r3 : Int) (w : World) (h : laws_toEntry.f a0_0 a0_1 a0_2 = some (r1, r2, r3)) :
  Calls Tryz.prog 219 #[.agg #[.int .i64 a0_0, .int .i64 a0_1, .int .i64 a0_2]] w fun e w' => e = .returned (.agg #[.int .i64 r1, .int .i64 r2, .int .i64 r3]) ∧ Below w.heap.size w w' := by
 have hu224 := Tryz.underlying224
 have hu165 := Tryz.underlying165
 have HB := aM (Below.refl w.heap.size w)
 have H := h
 unfold laws_toEntry.f at H
 clear h
 simp only [Option.some.injEq, Prod.mk.injEq] at H
 obtain ⟨rfl, rfl, rfl⟩ := H
 go_enter Tryz.func219, Tryz.ntmps219
 go_wp2_with (first | (refine boxE 1 #[.int .i64 a0_0, .int .i64 a0_1, .int .i64 a0_2] 224 ?_; intro gbz1 hg wz1 hbox hb; have BKz1 := aM (hbox); have GWz1 := aG hg HB; have GEz1 := aG hg HB; replace HB := aS HB hb; clear hb hbox hg) | (refine boxE 2 #[.int .i64 0, .int .i64 0, .int .i64 0] 165 ?_; intro gbz2 hg wz2 hbox hb; have BKz2 := aM (hbox); have GWz2 := aG hg HB; have GEz2 := aG hg HB; have NBz1 := aL hg BKz1; have NBz2 := aR hg BKz1; replace BKz1 := aB BKz1 hb; replace HB := aS HB hb; clear hb hbox hg) | (refine boxE 3 #[.int .i64 0, .int .i64 0, .int .i64 0] 165 ?_; intro gbz3 hg wz3 hbox hb; have BKz3 := aM (hbox); have GWz3 := aG hg HB; have GEz3 := aG hg HB; have NBz3 := aL hg BKz1; have NBz4 := aR hg BKz1; have NBz5 := aL hg BKz2; have NBz6 := aR hg BKz2; replace BKz1 := aB BKz1 hb; replace BKz2 := aB BKz2 hb; replace HB := aS HB hb; clear hb hbox hg; have hnbz1 := NBz1.out; have hncz1 := NBz2.out; have hnbz2 := NBz3.out; have hncz2 := NBz4.out; have hczz1 := cZ3 BKz1.out; have hnbz3 := NBz6.out; have hncz3 := NBz5.out; have hczz4 := cZ3 BKz3.out; have hczz7 := cZ3 BKz2.out))
 refine bodyPost_ret (results_cell_row rfl _ _ gbz2 165 #[.int .i64 a0_0, .int .i64 a0_1, .int .i64 a0_2] (0, 0) _ rfl (bP BKz2.out) Tryz.underlying165 rfl (by kernel_rfl)) rfl ?_
 exact ⟨rE, (hX HB.out)⟩
def laws_toEntryS.l0 : Nat → List (S224) → List (S165) → Int → Option ((List (S165)))
 | 0, _, _, _ => none
 | k + 1, x0, x3, x4 => if x4 < (x0.length : Int) then (if 0 ≤ x4 then ((laws_toEntry.f ((rd_T224 x0 x4).f0) ((rd_T224 x0 x4).f1) ((rd_T224 x0 x4).f2)).bind fun bt105 => (if x4 < (x3.length : Int) then (laws_toEntryS.l0 k x0 (x3.set (x4 : Int).toNat (⟨bt105.1, bt105.2.1, bt105.2.2⟩ : S165)) (wrap64 (x4 + 1))) else (none))) else (none)) else (some x3)
def laws_toEntryS.f (k : Nat) (l0 : List (S224)) : Option ((List (S165))) := if 0 ≤ (l0.length : Int) then (if ((l0.length : Int) : Int).toNat ≤ 11728124029610 then (laws_toEntryS.l0 k l0 (List.replicate ((l0.length : Int) : Int).toNat z165) 0) else (none)) else (none)
theorem laws_toEntryS.calls (k : Nat) (A0 : Option Addr) (c0 : Nat) (l0 : List (S224)) (r : List (S165)) (w : World) (hr0 : Kd.C k224 w A0 l0.length l0) (hc0 : l0.length ≤ c0) (h : laws_toEntryS.f k l0 = some r) :
  Calls Tryz.prog 205 #[.slice A0 l0.length c0] w fun e w' => ∃ v0_ : Value, e = .returned (v0_) ∧ Kd.R k165 165 w' w.heap.size (fun _ => True) v0_ r ∧ Below w.heap.size w w' := by
 have hu224 := Tryz.underlying224
 have hu165 := Tryz.underlying165
 have HR0 := aM hr0
 have HC0 := aM hc0
 clear hr0 hc0
 have HB := aM (Below.refl w.heap.size w)
 have H := h
 unfold laws_toEntryS.f at H
 clear h
 replace H := ifP H; obtain ⟨c2, H⟩ := H
 have c2b0 := eq_true c2
 have c2b1 := decide_eq_true c2
 clear c2
 replace H := ifP H; obtain ⟨c3, H⟩ := H
 have c3b0 := eq_true c3
 have c3b1 := decide_eq_true c3
 clear c3
 obtain ⟨y101, hy101⟩ : ∃ y_ : List (S165), y_ = (List.replicate ((l0.length : Int) : Int).toNat z165) := ⟨_, rfl⟩
 replace H : (laws_toEntryS.l0 k l0 y101 0) = some r := yH H hy101
 have Ny101 := aM hy101
 clear hy101
 have H' := aM H
 clear H
 go_enter Tryz.func205, Tryz.ntmps205
 go_wp2_with ((with_reducible refine gate_dst (N := 7) rfl ?_); refine Kd.R_make k165 _ 165 rfl (N := 7) rfl 160 _ _ rfl (l0.length : Int) rfl rfl Tryz.underlying160 (.agg #[(.int .i64 0), (.int .i64 0), (.int .i64 0)]) 24 info165 rfl (by decide) (by omega) z165 (ok := fun _ => True) (okp := fun _ => True) (k165_mkM _ _ _ z165 ) (fun _ hk => hk) trivial (odA) (Nat.le_trans (Nat.mul_le_mul_right _ (odA : (l0.length : Int).toNat ≤ 11728124029610)) (by omega)) (Below.refl _ _) (Nat.le_refl _) ?_; intro vz1 wz1 hoz1 hb hg_ hnew_; clear hg_ hnew_; (first | rw [← Ny101.out] at hoz1 | (simp only [Int.reduceToNat] at hoz1; rw [← Ny101.out] at hoz1)); have HOz1 := aM (Kd.R_lower hoz1 (below_size (hX HB.out))); replace HB := aS HB hb; clear hb hoz1)
 go_loopg [4] k (fun kq v4 w' => ∃ (x3_1 : List (S165)) (x4_1 : Int), v4 = .int .i64 x4_1 ∧ Aside0 (laws_toEntryS.l0 kq l0 x3_1 x4_1 = some r) ∧ Aside0 (kq ≤ k) ∧ Aside0 (Kd.R k165 165 w' w.heap.size (fun _ => True) vz1 x3_1) ∧ Aside0 (Below w.heap.size w w'))
 case atStart => exact ⟨(y101), (0), rS, H', ⟨Nat.le_refl _⟩, ⟨(rX HOz1.out)⟩, ⟨(hX HB.out)⟩⟩
 case round =>
  clear H'
  try clear c2
  try clear c2b0
  try clear c2b1
  try clear c3
  try clear c3b0
  try clear c3b1
  obtain ⟨x3_1, x4_1, rfl, HA, HKy1, HO_y1, HB⟩ := hrel
  cases gk with
  | zero => exact absurd HA.out (by simp [laws_toEntryS.l0])
  | succ k1 =>
   have H := HA.out
   clear HA
   simp only [laws_toEntryS.l0] at H
   revert H; refine iN (fun c6b0 H => ?_) (fun c6b0 H => ?_)
   ·obtain rfl := sI H
    go_wp2
    go_ret
    exact ⟨_, rE, (rX HO_y1.out), (hX HB.out)⟩
   replace H := ifQ H; obtain ⟨c7b0, H⟩ := H
   replace H := bE H; obtain ⟨⟨t105, t106, t107⟩, A8, H⟩ := H
   try dsimp only at H
   replace H := ifQ H; obtain ⟨c9b0, H⟩ := H
   obtain ⟨y108, hy108⟩ : ∃ y_ : List (S165), y_ = (x3_1.set (x4_1 : Int).toNat (⟨t105, t106, t107⟩ : S165)) := ⟨_, rfl⟩
   replace H : (laws_toEntryS.l0 k1 l0 y108 (wrap64 (x4_1 + 1))) = some r := yH H hy108
   have Ny108 := aM hy108
   clear hy108
   have H' := aM H
   clear H
   obtain ⟨adx1, ex1, px1, qx1, hxx1⟩ := at_T224c HR0 HB x4_1
   cases ex1
   go_wp2_with (first | (refine gB 219 20 Tryz.func219 (laws_toEntry.calls _ _ _ _ _ _ _ A8.out) ?_; intro wx1 hb; replace HO_y1 := aQ HO_y1 hb; replace HB := aS HB hb; clear hb; have px2 : 0 ≤ (x4_1 : Int) := odA; have qx2 : (x4_1 : Int) < ((x3_1.length : Int) : Int) := odA; obtain ⟨gox1, cox1, eox1, gbx1, glx1, clx1, HGx1⟩ := Kd.R_form HO_y1.out (by omega); (first | cases eox1 | (injection eox1 with ea_ en_ ec_; (first | subst ea_ | (injection ea_ with ea_; subst ea_)); subst ec_; clear en_)); have GBx1 := aM gbx1; have GGx1 := aM HGx1; clear gbx1 glx1 HGx1; obtain ⟨cex1, hclx1, hMx1, hccx1, hfrx1⟩ := Kd.R_elem HO_y1.out z165 (x4_1 : Int) px2 qx2; obtain rfl := k165_openM hMx1; have hxx4 : wx1.cell? ⟨gox1, (x4_1 : Int).toNat * 3, none⟩ = some (.int .i64 ((rd_T165 x3_1 x4_1).f0)) := hccx1 0 _ rfl; have hxx5 : wx1.cell? ⟨gox1, (x4_1 : Int).toNat * 3 + 1, none⟩ = some (.int .i64 ((rd_T165 x3_1 x4_1).f1)) := hccx1 1 _ rfl; have hxx6 : wx1.cell? ⟨gox1, (x4_1 : Int).toNat * 3 + 2, none⟩ = some (.int .i64 ((rd_T165 x3_1 x4_1).f2)) := hccx1 2 _ rfl; have hfx1 : wx1.frozen? ⟨gox1, (x4_1 : Int).toNat * 3, none⟩ = false := hfrx1 0; have hfx2 : wx1.frozen? ⟨gox1, (x4_1 : Int).toNat * 3 + 1, none⟩ = false := hfrx1 1; have hfx3 : wx1.frozen? ⟨gox1, (x4_1 : Int).toNat * 3 + 2, none⟩ = false := hfrx1 2; clear hclx1 hccx1 hfrx1 hMx1; replace px2 := eq_true px2; replace qx2 := eq_true qx2; have HXx1 := aM (show Kd.R k165 165 wx1 w.heap.size (fun _ => True) (.slice (some ⟨gox1, 0, none⟩) x3_1.length cox1) x3_1 from (rX HO_y1.out)); obtain ⟨cex2, hclx2, hMx2, hccx2, hfrx2⟩ := Kd.R_elem HXx1.out z165 (x4_1 : Int) (odA) (by have h_ : (x4_1 : Int) < ((x3_1.length : Int) : Int) := odA; first | exact h_ | (have e_ := (Kd.R_reads' HO_y1.out).1; omega) | simpa using h_); obtain rfl := k165_openM hMx2; have HPx1 := Kd.R_seg HXx1.out (x4_1 : Int) (odA) (by have h_ : (x4_1 : Int) < ((x3_1.length : Int) : Int) := odA; first | exact h_ | (have e_ := (Kd.R_reads' HO_y1.out).1; omega) | simpa using h_) (seg := [.int .i64 t105, .int .i64 t106, .int .i64 t107]) (j := 0) hclx2 hccx2 (show 3 ≤ 3 from by decide) (x' := (⟨t105, t106, t107⟩ : S165)) (k165_mkM _ _ _ (⟨t105, t106, t107⟩ : S165) ) (fun _ hk => hk); have hxx7 := hccx2 0 _ rfl; (try simp only [show (k165).sz = 3 from rfl, Nat.mul_one, Nat.add_zero] at hxx7); have hfx4 := hfrx2 0; (try simp only [show (k165).sz = 3 from rfl, Nat.mul_one, Nat.add_zero] at hfx4); have hxx8 := hccx2 1 _ rfl; (try simp only [show (k165).sz = 3 from rfl, Nat.mul_one, Nat.add_zero] at hxx8); have hfx5 := hfrx2 1; (try simp only [show (k165).sz = 3 from rfl, Nat.mul_one, Nat.add_zero] at hfx5); have hxx9 := hccx2 2 _ rfl; (try simp only [show (k165).sz = 3 from rfl, Nat.mul_one, Nat.add_zero] at hxx9); have hfx6 := hfrx2 2; (try simp only [show (k165).sz = 3 from rfl, Nat.mul_one, Nat.add_zero] at hfx6); clear hclx2 hccx2 hfrx2 hMx2) | ((with_reducible refine gate_store (t := 165) (p := 21) rfl ?_); refine store_event (t := 165) (p := 21) (v := ?vo_wx2) (w1 := (((wx1.setCell ⟨gox1, (x4_1 : Int).toNat * 3, none⟩ (.int .i64 t105)).setCell ⟨gox1, (x4_1 : Int).toNat * 3 + 1, none⟩ (.int .i64 t106)).setCell ⟨gox1, (x4_1 : Int).toNat * 3 + 2, none⟩ (.int .i64 t107))) ?hg ?ho ?hn ?hr ?_; (case ho => rfl); (case hg => rfl); (case hn => rfl); (case hr => first | (go_simp; done) | (go_simp; rfl)); intro wx2 hw; have hg : wx1.grownBy wx2 (some gox1) := (by rw [hw]; exact HPx1.2); have hp_ : Kd.R k165 165 wx2 w.heap.size (fun _ => True) (.slice (some ⟨gox1, 0, none⟩) x3_1.length cox1) y108 := (by rw [hw, Ny108.out]; exact HPx1.1); clear HPx1; replace HO_y1 := aM (hp_); replace HB := aM ((by rw [hw]; exact below_set (below_set (below_set (HB.out) GBx1.out) GBx1.out) GBx1.out : Below w.heap.size w wx2)); clear hg hw hp_))
   go_roundg k1
   case measure => have := HKy1.out; omega
   case rel => exact ⟨(y108), (wrap64 (x4_1 + 1)), rS, H', ⟨by have := HKy1.out; omega⟩, ⟨(rX HO_y1.out)⟩, ⟨(hX HB.out)⟩⟩
end Go.Proofs.YtmljebgideecjaaGreat.P2
