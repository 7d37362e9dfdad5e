/- A part of the proof of the law FnExactJudgeSo: texts of this seat, merged (words, printed functions of the program, plain lemmas). Conditions: none of its own. -/
import Derived.Test.YtmljebgideecjaaGreatP2kFnExactJudgeSo1
import Derived.Test.YtmljebgideecjaaGreatP2kFnExactJudgeSo4
import Derived.Test.YtmljebgideecjaaGreatP2kFnExactJudgeSo5
import Derived.Test.YtmljebgideecjaaGreatP2kFnExactJudgeSo6
import Derived.Test.YtmljebgideecjaaGreatP2kFnExactJudgeSo10
import Derived.Test.YtmljebgideecjaaGreatP2kFnExactJudgeSo11
set_option linter.unusedSimpArgs false
set_option linter.unusedVariables false
set_option maxHeartbeats 8000000
set_option maxRecDepth 100000
namespace Go.Proofs.YtmljebgideecjaaGreat.P2
open Go.Proofs.YtmljebgideecjaaGreatZ Go.RowKit Go.Proofs.YtmljebgideecjaaGreatW.PrintWords Go.Proofs.YtmljebgideecjaaGreatW.PrintLast Go.Proofs.YtmljebgideecjaaGreatW.PrintMore
attribute [local go_sem] max2_int min2_int max_two min_two max_three min_three max_four min_four   -- for this text's walks alone
def laws_eqMachine.f (k : Nat) (l0_0 : List (S140)) (l0_1 : List (S162)) (l0_2 : List (S97)) (a0_3 : Int) (l0_4 : List (S73)) (l0_5 : List Int) (l0_6 : List Int) (a0_7 : Int) (l1_0 : List (S140)) (l1_1 : List (S162)) (l1_2 : List (S97)) (a1_3 : Int) (l1_4 : List (S73)) (l1_5 : List Int) (l1_6 : List Int) (a1_7 : Int) : Option (Bool) := (laws_eqMem.f k l0_0 l0_1 l1_0 l1_1).bind fun t103 => (if t103 = true then ((laws_eqThreadS.f k l0_2 l1_2).bind fun t104 => (if t104 = true then (if a0_3 = a1_3 then ((laws_eqCallS.f k l0_4 l1_4).bind fun t105 => (if t105 = true then ((laws_eqIntS.f k l0_5 l1_5).bind fun t106 => (if t106 = true then ((laws_eqRows.f k l0_6 a0_7 l1_6 a1_7).bind fun t107 => (if t107 = true then (some true) else (some false))) else (some false))) else (some false))) else (some false)) else (some false))) else (some false))
theorem laws_eqMachine.calls (k : Nat) (A0_0 : Option Addr) (c0_0 : Nat) (l0_0 : List (S140)) (A0_1 : Option Addr) (c0_1 : Nat) (l0_1 : List (S162)) (A0_2 : Option Addr) (c0_2 : Nat) (l0_2 : List (S97)) (a0_3 : Int) (A0_4 : Option Addr) (c0_4 : Nat) (l0_4 : List (S73)) (A0_5 : Option Addr) (c0_5 : Nat) (l0_5 : List Int) (A0_6 : Option Addr) (c0_6 : Nat) (l0_6 : List Int) (a0_7 : Int) (A1_0 : Option Addr) (c1_0 : Nat) (l1_0 : List (S140)) (A1_1 : Option Addr) (c1_1 : Nat) (l1_1 : List (S162)) (A1_2 : Option Addr) (c1_2 : Nat) (l1_2 : List (S97)) (a1_3 : Int) (A1_4 : Option Addr) (c1_4 : Nat) (l1_4 : List (S73)) (A1_5 : Option Addr) (c1_5 : Nat) (l1_5 : List Int) (A1_6 : Option Addr) (c1_6 : Nat) (l1_6 : List Int) (a1_7 : Int) (r : Bool) (w : World) (hr0_0 : Kd.C k140 w A0_0 l0_0.length l0_0) (hc0_0 : l0_0.length ≤ c0_0) (hr0_1 : Kd.C k162 w A0_1 l0_1.length l0_1) (hc0_1 : l0_1.length ≤ c0_1) (hr0_2 : Kd.C k97 w A0_2 l0_2.length l0_2) (hc0_2 : l0_2.length ≤ c0_2) (hr0_4 : Kd.C k73 w A0_4 l0_4.length l0_4) (hc0_4 : l0_4.length ≤ c0_4) (hr0_5 : Kd.C (Kd.int .i64) w A0_5 l0_5.length l0_5) (hc0_5 : l0_5.length ≤ c0_5) (hr0_6 : Kd.C (Kd.int .i64) w A0_6 l0_6.length l0_6) (hc0_6 : l0_6.length ≤ c0_6) (hr1_0 : Kd.C k140 w A1_0 l1_0.length l1_0) (hc1_0 : l1_0.length ≤ c1_0) (hr1_1 : Kd.C k162 w A1_1 l1_1.length l1_1) (hc1_1 : l1_1.length ≤ c1_1) (hr1_2 : Kd.C k97 w A1_2 l1_2.length l1_2) (hc1_2 : l1_2.length ≤ c1_2) (hr1_4 : Kd.C k73 w A1_4 l1_4.length l1_4) (hc1_4 : l1_4.length ≤ c1_4) (hr1_5 : Kd.C (Kd.int .i64) w A1_5 l1_5.length l1_5) (hc1_5 : l1_5.length ≤ c1_5) (hr1_6 : Kd.C (Kd.int .i64) w A1_6 l1_6.length l1_6) (hc1_6 : l1_6.length ≤ c1_6) (h : laws_eqMachine.f k l0_0 l0_1 l0_2 a0_3 l0_4 l0_5 l0_6 a0_7 l1_0 l1_1 l1_2 a1_3 l1_4 l1_5 l1_6 a1_7 = some r) :
  Calls Tryz.prog 14 #[.agg #[.slice A0_0 l0_0.length c0_0, .slice A0_1 l0_1.length c0_1, .slice A0_2 l0_2.length c0_2, .int .i64 a0_3, .slice A0_4 l0_4.length c0_4, .slice A0_5 l0_5.length c0_5, .slice A0_6 l0_6.length c0_6, .int .i64 a0_7], .agg #[.slice A1_0 l1_0.length c1_0, .slice A1_1 l1_1.length c1_1, .slice A1_2 l1_2.length c1_2, .int .i64 a1_3, .slice A1_4 l1_4.length c1_4, .slice A1_5 l1_5.length c1_5, .slice A1_6 l1_6.length c1_6, .int .i64 a1_7]] w fun e w' => e = .returned (.bool r) ∧ Below w.heap.size w w' := by
 have hu43 := Tryz.underlying43
 have hu38 := Tryz.underlying38
 have hu41 := Tryz.underlying41
 have HR0_0 := aM hr0_0
 have HC0_0 := aM hc0_0
 clear hr0_0 hc0_0
 have HR0_1 := aM hr0_1
 have HC0_1 := aM hc0_1
 clear hr0_1 hc0_1
 have HR0_2 := aM hr0_2
 have HC0_2 := aM hc0_2
 clear hr0_2 hc0_2
 have HR0_4 := aM hr0_4
 have HC0_4 := aM hc0_4
 clear hr0_4 hc0_4
 have HR0_5 := aM hr0_5
 have HC0_5 := aM hc0_5
 clear hr0_5 hc0_5
 have HR0_6 := aM hr0_6
 have HC0_6 := aM hc0_6
 clear hr0_6 hc0_6
 have HR1_0 := aM hr1_0
 have HC1_0 := aM hc1_0
 clear hr1_0 hc1_0
 have HR1_1 := aM hr1_1
 have HC1_1 := aM hc1_1
 clear hr1_1 hc1_1
 have HR1_2 := aM hr1_2
 have HC1_2 := aM hc1_2
 clear hr1_2 hc1_2
 have HR1_4 := aM hr1_4
 have HC1_4 := aM hc1_4
 clear hr1_4 hc1_4
 have HR1_5 := aM hr1_5
 have HC1_5 := aM hc1_5
 clear hr1_5 hc1_5
 have HR1_6 := aM hr1_6
 have HC1_6 := aM hc1_6
 clear hr1_6 hc1_6
 have HB := aM (Below.refl w.heap.size w)
 have H := h
 unfold laws_eqMachine.f at H
 clear h
 replace H := bE H; obtain ⟨t103, A3, H⟩ := H
 go_enter Tryz.func14, Tryz.ntmps14
 go_wp2_with (first | (refine boxE 2 #[.slice A0_0 l0_0.length c0_0, .slice A0_1 l0_1.length c0_1, .slice A0_2 l0_2.length c0_2, .int .i64 a0_3, .slice A0_4 l0_4.length c0_4, .slice A0_5 l0_5.length c0_5, .slice A0_6 l0_6.length c0_6, .int .i64 a0_7] 43 ?_; intro gbz1 hg wz1 hbox hb; have BKz1 := aM (hbox); have GWz1 := aG hg HB; have GEz1 := aG hg HB; replace HB := aS HB hb; clear hb hbox hg) | (refine boxE 3 #[.slice A1_0 l1_0.length c1_0, .slice A1_1 l1_1.length c1_1, .slice A1_2 l1_2.length c1_2, .int .i64 a1_3, .slice A1_4 l1_4.length c1_4, .slice A1_5 l1_5.length c1_5, .slice A1_6 l1_6.length c1_6, .int .i64 a1_7] 43 ?_; intro gbz2 hg wz2 hbox hb; have BKz2 := aM (hbox); have GWz2 := aG hg HB; have GEz2 := aG hg HB; have NBz1 := aL hg BKz1; have NBz2 := aR hg BKz1; replace BKz1 := aB BKz1 hb; replace HB := aS HB hb; clear hb hbox hg; have hnbz1 := NBz1.out; have hncz1 := NBz2.out; have hczz1 := cZ8 BKz1.out; have hczz9 := cZ8 BKz2.out; refine Stop.out ?_))
 refine ⟨?_⟩
 cases t103
 case false =>
  rw [if_neg nft] at H
  obtain rfl := sI H
  go_wp2_with (refine gB 50 9 Tryz.func50 (laws_eqMem.calls _ _ _ _ _ _ _ _ _ _ _ _ _ _ _ (cC HR0_0.out HB.out) HC0_0.out (cC HR0_1.out HB.out) HC0_1.out (cC HR1_0.out HB.out) HC1_0.out (cC HR1_1.out HB.out) HC1_1.out A3.out) ?_; intro wz3 hb; replace BKz1 := aB BKz1 hb; replace BKz2 := aB BKz2 hb; replace HB := aS HB hb; clear hb)
  go_ret
  exact ⟨rE, (hX HB.out)⟩
 rw [if_pos rfl] at H
 replace H := bE H; obtain ⟨t104, A5, H⟩ := H
 go_wp2_with (refine gB 50 9 Tryz.func50 (laws_eqMem.calls _ _ _ _ _ _ _ _ _ _ _ _ _ _ _ (cC HR0_0.out HB.out) HC0_0.out (cC HR0_1.out HB.out) HC0_1.out (cC HR1_0.out HB.out) HC1_0.out (cC HR1_1.out HB.out) HC1_1.out A3.out) ?_; intro wz3 hb; replace BKz1 := aB BKz1 hb; replace BKz2 := aB BKz2 hb; replace HB := aS HB hb; clear hb; have hczz17 := cZ8 BKz1.out; have hczz25 := cZ8 BKz2.out; refine Stop.out ?_)
 refine ⟨?_⟩
 cases t104
 case false =>
  rw [if_neg nft] at H
  obtain rfl := sI H
  go_wp2_with (refine gB 51 15 Tryz.func51 (laws_eqThreadS.calls _ _ _ _ _ _ _ _ _ (cC HR0_2.out HB.out) HC0_2.out (cC HR1_2.out HB.out) HC1_2.out A5.out) ?_; intro wz4 hb; replace BKz1 := aB BKz1 hb; replace BKz2 := aB BKz2 hb; replace HB := aS HB hb; clear hb)
  go_ret
  exact ⟨rE, (hX HB.out)⟩
 rw [if_pos rfl] at H
 go_wp2_with (refine gB 51 15 Tryz.func51 (laws_eqThreadS.calls _ _ _ _ _ _ _ _ _ (cC HR0_2.out HB.out) HC0_2.out (cC HR1_2.out HB.out) HC1_2.out A5.out) ?_; intro wz4 hb; replace BKz1 := aB BKz1 hb; replace BKz2 := aB BKz2 hb; replace HB := aS HB hb; clear hb; have hczz33 := cZ8 BKz1.out; have hczz41 := cZ8 BKz2.out; refine Stop.out ?_)
 refine ⟨?_⟩
 revert H; refine eN (fun c7b0 c7b1 H => ?_) (fun c7b0 c7b1 H => ?_)
 ·obtain rfl := sI H
  exact fS
 replace H := bE H; obtain ⟨t105, A8, H⟩ := H
 cases t105
 case false =>
  rw [if_neg nft] at H
  obtain rfl := sI H
  go_wp2_with (refine gB 52 26 Tryz.func52 (laws_eqCallS.calls _ _ _ _ _ _ _ _ _ (cC HR0_4.out HB.out) HC0_4.out (cC HR1_4.out HB.out) HC1_4.out A8.out) ?_; intro wz5 hb; replace BKz1 := aB BKz1 hb; replace BKz2 := aB BKz2 hb; replace HB := aS HB hb; clear hb)
  go_ret
  exact ⟨rE, (hX HB.out)⟩
 rw [if_pos rfl] at H
 replace H := bE H; obtain ⟨t106, A10, H⟩ := H
 go_wp2_with (refine gB 52 26 Tryz.func52 (laws_eqCallS.calls _ _ _ _ _ _ _ _ _ (cC HR0_4.out HB.out) HC0_4.out (cC HR1_4.out HB.out) HC1_4.out A8.out) ?_; intro wz5 hb; replace BKz1 := aB BKz1 hb; replace BKz2 := aB BKz2 hb; replace HB := aS HB hb; clear hb; have hczz49 := cZ8 BKz1.out; have hczz57 := cZ8 BKz2.out; refine Stop.out ?_)
 refine ⟨?_⟩
 cases t106
 case false =>
  rw [if_neg nft] at H
  obtain rfl := sI H
  go_wp2_with (refine gD 53 32 Tryz.func53 (laws_eqIntS.calls _ _ _ _ _ _ _ _ _ (cC HR0_5.out HB.out) HC0_5.out (cC HR1_5.out HB.out) HC1_5.out A10.out) ?_; intro nd)
  go_ret
  exact ⟨rE, (hX HB.out)⟩
 rw [if_pos rfl] at H
 replace H := bE H; obtain ⟨t107, A12, H⟩ := H
 go_wp2_with (refine gD 53 32 Tryz.func53 (laws_eqIntS.calls _ _ _ _ _ _ _ _ _ (cC HR0_5.out HB.out) HC0_5.out (cC HR1_5.out HB.out) HC1_5.out A10.out) ?_; intro nd; refine Stop.out ?_)
 refine ⟨?_⟩
 cases t107
 case true =>
  rw [if_pos rfl] at H
  obtain rfl := sI H
  go_wp2_with (refine gB 23 38 Tryz.func23 (laws_eqRows.calls _ _ _ _ _ _ _ _ _ _ _ (cC HR0_6.out HB.out) HC0_6.out (cC HR1_6.out HB.out) HC1_6.out A12.out) ?_; intro wz6 hb; replace BKz1 := aB BKz1 hb; replace BKz2 := aB BKz2 hb; replace HB := aS HB hb; clear hb)
  go_ret
  exact ⟨rE, (hX HB.out)⟩
 rw [if_neg nft] at H
 obtain rfl := sI H
 go_wp2_with (refine gB 23 38 Tryz.func23 (laws_eqRows.calls _ _ _ _ _ _ _ _ _ _ _ (cC HR0_6.out HB.out) HC0_6.out (cC HR1_6.out HB.out) HC1_6.out A12.out) ?_; intro wz6 hb; replace BKz1 := aB BKz1 hb; replace BKz2 := aB BKz2 hb; replace HB := aS HB hb; clear hb)
 go_ret
 exact ⟨rE, (hX HB.out)⟩
def spec_l1In.f (a0 : Int) (a1 : Int) (a2 : Int) : Option (Bool) := if a0 ≥ a1 then (some (decide (a0 ≤ a2))) else (some false)
theorem spec_l1In.calls (a0 : Int) (a1 : Int) (a2 : Int) (r : Bool) (w : World) (h : spec_l1In.f a0 a1 a2 = some r) :
  Calls Tryz.prog 43 #[.int .i64 a0, .int .i64 a1, .int .i64 a2] w fun e w' => e = .returned (.bool r) ∧ Drawn0 w w' := by
 have H := h
 unfold spec_l1In.f at H
 clear h
 go_enter Tryz.func43, Tryz.ntmps43
 revert H; refine iP (fun c4b0 H => ?_) (fun c4b0 H => ?_)
 ·obtain rfl := sI H
  go_wp2
  go_ret
  exact ⟨by first | rfl | (simp; done) | (simp [*]; done), dX⟩
 obtain rfl := sI H
 go_wp2
 go_ret
 exact ⟨by first | rfl | (simp; done) | (simp [*]; done), dX⟩
mutual
def spec_DescOk.j0 : Nat → Bool → Int → Int → List (S165) → Int → List Int → Option (Bool)
 | 0, _, _, _, _, _, _ => none
 | k + 1, x45, x102000, x102001, x102002, x102003, x102004 => if x45 = true then (some false) else (spec_DescOk.l0 k 0 x102000 x102001 x102002 x102003 x102004)
def spec_DescOk.l0 : Nat → Int → Int → Int → List (S165) → Int → List Int → Option (Bool)
 | 0, _, _, _, _, _, _ => none
 | k + 1, x3, x102000, x102001, x102002, x102003, x102004 => if x3 < (x102002.length : Int) then (if 0 ≤ x3 then ((spec_l1In.f ((rd_T165 x102002 x3).f0) 0 19).bind fun t106 => (if t106 = true then ((spec_l1In.f ((rd_T165 x102002 x3).f1) 0 1000).bind fun t107 => (if t107 = true then ((spec_l1In.f ((rd_T165 x102002 x3).f2) 0 1000).bind fun t108 => (if t108 = true then (if x3 > 0 then (if 0 ≤ (wrap64 (x3 - 1)) then (if (wrap64 (x3 - 1)) < (x102002.length : Int) then (if ((rd_T165 x102002 (wrap64 (x3 - 1))).f0) ≥ ((rd_T165 x102002 x3).f0) then (some false) else (spec_DescOk.l0 k (wrap64 (x3 + 1)) x102000 x102001 x102002 x102003 x102004)) else (none)) else (none)) else (spec_DescOk.l0 k (wrap64 (x3 + 1)) x102000 x102001 x102002 x102003 x102004)) else (some false))) else (some false))) else (some false))) else (none)) else (some true)
end
def spec_DescOk.f (k : Nat) (a0_0 : Int) (a0_1 : Int) (l0_2 : List (S165)) (a0_3 : Int) (l0_4 : List Int) : Option (Bool) := if a0_0 = 0 then (if a0_1 = 0 then (if (l0_2.length : Int) = 0 then (if a0_3 = 0 then (some ((l0_4.length : Int) == 0)) else (some false)) else (some false)) else (some false)) else ((spec_l1In.f a0_0 1 1000000).bind fun t102 => (if t102 = true then ((spec_l1In.f a0_1 1 3).bind fun t103 => (if t103 = true then (spec_DescOk.j0 k (decide ((l0_2.length : Int) > 20)) a0_0 a0_1 l0_2 a0_3 l0_4) else (spec_DescOk.j0 k true a0_0 a0_1 l0_2 a0_3 l0_4))) else (spec_DescOk.j0 k true a0_0 a0_1 l0_2 a0_3 l0_4)))
def spec_DescOk.T9 : Bool × List (List Nat × List Nat) := (true, [([], []), ([0], [0]), ([1], [1]), ([2], [2]), ([3, 2], [3]), ([4], [4]), ([5, 4], [4, 5]), ([6, 4, 4], [4, 6]), ([7, 4], [4, 7]), ([4, 8], [4, 8]), ([9, 7], [9]), ([10], [10]), ([11, 10], [10, 11]), ([12, 10, 10], [10, 12]), ([13, 10], [10, 13]), ([10, 14], [10, 14]), ([15, 13], [15]), ([16], [16]), ([17, 16], [16, 17]), ([18, 16, 16], [16, 18]), ([19], [19]), ([20, 19], [19, 20]), ([19], [19]), ([22, 19], [19, 22]), ([21, 23, 19], [19, 21, 23]), ([24, 19], [19, 24]), ([25, 19], [19, 25]), ([19], [19]), ([27, 19], [19, 27]), ([26, 28, 19], [19, 26, 28]), ([19, 29, 16], [16, 19, 29]), ([16, 30], [16, 30])])
def spec_DescOk.B9 : List Nat := [0, 1, 3, 7, 15, 31, 63, 127, 255, 511, 1023, 2047, 4095, 8191, 16383, 32767, 65535, 131071, 262143, 524287, 1048575, 2097151, 1048575, 5242879, 16777215, 33554431, 67108863, 1048575, 135266303, 536870911, 1073741823, 2147483647]
theorem spec_DescOk.tab9 : rtab .any (opsOf Tryz.f156 9) = spec_DescOk.T9 := by kernel_rfl
theorem spec_DescOk.bits9 : waitsOk spec_DescOk.T9.2 spec_DescOk.B9 = true := by kernel_rfl
theorem spec_DescOk.calls (k : Nat) (a0_0 : Int) (a0_1 : Int) (A0_2 : Option Addr) (c0_2 : Nat) (l0_2 : List (S165)) (a0_3 : Int) (A0_4 : Option Addr) (c0_4 : Nat) (l0_4 : List Int) (r : Bool) (w : World) (hr0_2 : Kd.C k165 w A0_2 l0_2.length l0_2) (hc0_2 : l0_2.length ≤ c0_2) (hr0_4 : Kd.C (Kd.int .i64) w A0_4 l0_4.length l0_4) (hc0_4 : l0_4.length ≤ c0_4) (h : spec_DescOk.f k a0_0 a0_1 l0_2 a0_3 l0_4 = some r) :
  Calls Tryz.prog 156 #[.agg #[.int .i64 a0_0, .int .i64 a0_1, .slice A0_2 l0_2.length c0_2, .int .i64 a0_3, .slice A0_4 l0_4.length c0_4]] w fun e w' => e = .returned (.bool r) ∧ Below w.heap.size w w' := by
 have hu162 := Tryz.underlying162
 have hu165 := Tryz.underlying165
 have HR0_2 := aM hr0_2
 have HC0_2 := aM hc0_2
 clear hr0_2 hc0_2
 have HR0_4 := aM hr0_4
 have HC0_4 := aM hc0_4
 clear hr0_4 hc0_4
 have HB := aM (Below.refl w.heap.size w)
 have H := h
 unfold spec_DescOk.f at H
 clear h
 go_enter Tryz.func156, Tryz.ntmps156
 go_wp2_with ((with_reducible refine gate_dst (N := 1) rfl ?_); (try (refine gate_guard (by rfl) ?_; dsimp only)); refine boxF 1 #[.int .i64 a0_0, .int .i64 a0_1, .slice A0_2 l0_2.length c0_2, .int .i64 a0_3, .slice A0_4 l0_4.length c0_4] 162 ?_; intro gbz1 hg wz1 hbox hb; have BKz1 := aM (hbox); have GWz1 := aG hg HB; have GEz1 := aG hg HB; replace HB := aS HB hb; clear hb hbox hg; have hczz1 := cZ5 BKz1.out; refine Stop.out ?_)
 refine ⟨?_⟩
 revert H; refine eP (fun c2b0 c2b1 H => ?_) (fun c2b0 c2b1 H => ?_)
 ·revert H; refine eN (fun c3b0 c3b1 H => ?_) (fun c3b0 c3b1 H => ?_)
  ·obtain rfl := sI H
   exact fS
  by_cases c4 : (l0_2.length : Int) = 0
  case neg =>
   rw [if_neg c4] at H
   obtain ⟨c4b0, c4b1⟩ := eqF c4
   have c4b2 : ¬ (l0_2 = []) := fun h_ => c4 (by rw [h_]; rfl)
   exact fR
  rw [if_pos c4] at H
  obtain ⟨c4b0, c4b1⟩ := eqT c4
  clear c4
  revert H; refine eN (fun c5b0 c5b1 H => ?_) (fun c5b0 c5b1 H => ?_)
  ·obtain rfl := sI H
   exact fS
  exact fR
 have HC14 := aM H
 clear H
 go_upto_region 3 with (fail)
 (try simp only [Act.put, List.setIfInBounds_toArray, List.set_cons_zero, List.set_cons_succ])
 go_cut [45] (fun vz1 wc => ∃ (kq : Nat) (x45_13 : Bool), vz1 = .bool x45_13 ∧ Aside0 (spec_DescOk.j0 kq x45_13 a0_0 a0_1 l0_2 a0_3 l0_4 = some r) ∧ Aside0 (kq ≤ k) ∧ Aside0 (wc.heap[gbz1]? = some (.cells #[.int .i64 a0_0, .int .i64 a0_1, (.slice A0_2 l0_2.length c0_2), .int .i64 a0_3, (.slice A0_4 l0_4.length c0_4)] 162 (0, 0))) ∧ Aside0 (Below w.heap.size w wc))
 case first =>
  have H := HC14.out
  clear HC14
  replace H := bE H; obtain ⟨t102, A17, H⟩ := H
  cases t102
  case false =>
   rw [if_neg nft] at H
   have H' := aM H
   clear H
   have hczy1 := cZ5 BKz1.out
   go_wp2_with (refine gD 43 32 Tryz.func43 (spec_l1In.calls _ _ _ _ _ A17.out) ?_; intro nd)
   go_meet
   case rel => exact ⟨_, (true), rS, H', ⟨by first | omega | exact Nat.le_refl _⟩, ⟨(bX BKz1.out)⟩, ⟨(hX HB.out)⟩⟩
  rw [if_pos rfl] at H
  replace H := bE H; obtain ⟨t103, A19, H⟩ := H
  have hczy1 := cZ5 BKz1.out
  go_wp2_with (refine gD 43 32 Tryz.func43 (spec_l1In.calls _ _ _ _ _ A17.out) ?_; intro nd; refine Stop.out ?_)
  refine ⟨?_⟩
  cases t103
  case true =>
   rw [if_pos rfl] at H
   have H' := aM H
   clear H
   go_wp2_with (go_at_call 43; (with_reducible refine (spec_l1In.calls _ _ _ _ _ A19.out).mono ?_); rintro e w' ⟨rfl, ⟨nd, rfl⟩⟩)
   go_meet
   case rel => exact ⟨_, (decide ((l0_2.length : Int) > 20)), rS, H', ⟨by first | omega | exact Nat.le_refl _⟩, ⟨(bX BKz1.out)⟩, ⟨(hX HB.out)⟩⟩
  rw [if_neg nft] at H
  have H' := aM H
  clear H
  go_wp2_with (go_at_call 43; (with_reducible refine (spec_l1In.calls _ _ _ _ _ A19.out).mono ?_); rintro e w' ⟨rfl, ⟨nd, rfl⟩⟩)
  go_meet
  case rel => exact ⟨_, (true), rS, H', ⟨by first | omega | exact Nat.le_refl _⟩, ⟨(bX BKz1.out)⟩, ⟨(hX HB.out)⟩⟩
 case rest =>
  clear HC14
  try clear c2b0
  try clear c2b1
  try clear hczz1
  obtain ⟨kq, x45_13, rfl, HA, HJy1, BKz1, HB⟩ := hcut
  cases kq with
  | zero => exact absurd HA.out (by simp [spec_DescOk.j0])
  | succ kj13 =>
   have H := HA.out
   clear HA
   simp only [spec_DescOk.j0] at H
   cases x45_13
   case true =>
    rw [if_pos rfl] at H
    exact fR
   rw [if_neg nft] at H
   have H' := aM H
   clear H
   go_wp2
   go_loopg [3] kj13 (fun kq v3 w' => ∃ (x3_2 : Int), v3 = .int .i64 x3_2 ∧ Aside0 (spec_DescOk.l0 kq x3_2 a0_0 a0_1 l0_2 a0_3 l0_4 = some r) ∧ Aside0 (kq ≤ kj13) ∧ Aside0 (w'.heap[gbz1]? = some (.cells #[.int .i64 a0_0, .int .i64 a0_1, (.slice A0_2 l0_2.length c0_2), .int .i64 a0_3, (.slice A0_4 l0_4.length c0_4)] 162 (0, 0))) ∧ Aside0 (Below w.heap.size w w'))
   case atStart => exact ⟨(0), rS, H', ⟨Nat.le_refl _⟩, ⟨(bX BKz1.out)⟩, ⟨(hX HB.out)⟩⟩
   case round =>
    clear H'
    try clear c2b0
    try clear c2b1
    try clear hczz1
    obtain ⟨x3_2, rfl, HA, HKw1, BKz1, HB⟩ := hrel
    cases gk with
    | zero => exact absurd HA.out (by simp [spec_DescOk.l0])
    | succ k2 =>
     have H := HA.out
     clear HA
     simp only [spec_DescOk.l0] at H
     revert H; refine iN (fun c25b0 H => ?_) (fun c25b0 H => ?_)
     ·obtain rfl := sI H
      have hczv1 := cZ5 BKz1.out
      exact fS
     replace H := ifQ H; obtain ⟨c26b0, H⟩ := H
     replace H := bE H; obtain ⟨t106, A27, H⟩ := H
     have hczv1 := cZ5 BKz1.out
     obtain ⟨adv1, ev1, pv1, qv1, hxv1⟩ := at_T165c HR0_2 HB x3_2
     cases ev1
     go_wp2_with ((with_reducible refine gate_dst (N := 4) rfl ?_); (try (refine gate_guard (by rfl) ?_; dsimp only)); refine boxF 4 #[.int .i64 0, .int .i64 0, .int .i64 0] 165 ?_; intro gbv1 hg wv1 hbox hb; have BKv1 := aM (hbox); have GWv1 := aG hg HB; have GEv1 := aG hg HB; have NBv1 := aL hg BKz1; have NBv2 := aR hg BKz1; replace BKz1 := aB BKz1 hb; replace HB := aS HB hb; clear hb hbox hg; have hnbv1 := NBv2.out; have hncv1 := NBv1.out; have hczv6 := cZ3 BKv1.out; refine Stop.out ?_)
     refine ⟨?_⟩
     cases t106
     case false =>
      rw [if_neg nft] at H
      obtain rfl := sI H
      try go_wp2
      have nv1 : Aside0 ((((wv1.setCell ⟨gbv1, 0, none⟩ (.int .i64 ((rd_T165 l0_2 x3_2).f0))).setCell ⟨gbv1, 1, none⟩ (.int .i64 ((rd_T165 l0_2 x3_2).f1))).setCell ⟨gbv1, 2, none⟩ (.int .i64 ((rd_T165 l0_2 x3_2).f2))).heap[gbz1]? = some (.cells #[.int .i64 a0_0, .int .i64 a0_1, .slice (some adv1) l0_2.length c0_2, .int .i64 a0_3, .slice A0_4 l0_4.length c0_4] 162 (0, 0))) := ⟨(bF BKz1.out)⟩
      have nv2 : Aside0 ((((wv1.setCell ⟨gbv1, 0, none⟩ (.int .i64 ((rd_T165 l0_2 x3_2).f0))).setCell ⟨gbv1, 1, none⟩ (.int .i64 ((rd_T165 l0_2 x3_2).f1))).setCell ⟨gbv1, 2, none⟩ (.int .i64 ((rd_T165 l0_2 x3_2).f2))).heap[gbv1]? = some (.cells #[.int .i64 ((rd_T165 l0_2 x3_2).f0), .int .i64 ((rd_T165 l0_2 x3_2).f1), .int .i64 ((rd_T165 l0_2 x3_2).f2)] 165 (0, 0))) := ⟨(bP BKv1.out)⟩
      have nv3 : Aside0 (Below w.heap.size w (((wv1.setCell ⟨gbv1, 0, none⟩ (.int .i64 ((rd_T165 l0_2 x3_2).f0))).setCell ⟨gbv1, 1, none⟩ (.int .i64 ((rd_T165 l0_2 x3_2).f1))).setCell ⟨gbv1, 2, none⟩ (.int .i64 ((rd_T165 l0_2 x3_2).f2)))) := ⟨(hX HB.out)⟩
      (try clear BKz1)
      (try clear BKv1)
      (try clear HB)
      generalize (((wv1.setCell ⟨gbv1, 0, none⟩ (.int .i64 ((rd_T165 l0_2 x3_2).f0))).setCell ⟨gbv1, 1, none⟩ (.int .i64 ((rd_T165 l0_2 x3_2).f1))).setCell ⟨gbv1, 2, none⟩ (.int .i64 ((rd_T165 l0_2 x3_2).f2))) = wv2 at nv1 nv2 nv3 ⊢
      have BKz1 := nv1
      have BKv1 := nv2
      have HB := nv3
      clear nv1 nv2 nv3
      have hcb0_ := cV3 BKv1.out
      refine sR0 32 spec_DescOk.tab9 spec_DescOk.bits9 (fun HT_ HW_ hHeld => ?_)
      refine zA 0 ?_
      refine tA 1 ?_
      refine eD 2 Tryz.func43 (spec_l1In.calls _ _ _ _ _ A27.out) (fun nd hHeld => ?_)
      refine zA 3 ?_
      refine zA 4 ?_
      refine uA 5 ?_
      refine uA 6 ?_
      refine uA 7 ?_
      refine uA 8 ?_
      refine zA 9 ?_
      refine zA 10 ?_
      refine uA 11 ?_
      refine uA 12 ?_
      refine uA 13 ?_
      refine uA 14 ?_
      refine zA 15 ?_
      refine zA 16 ?_
      refine uA 17 ?_
      refine uA 18 ?_
      refine uA 19 ?_
      refine uA 20 ?_
      refine uA 21 ?_
      refine uA 22 ?_
      refine uA 23 ?_
      refine uA 24 ?_
      refine uA 25 ?_
      refine uA 26 ?_
      refine uA 27 ?_
      refine uA 28 ?_
      refine uA 29 ?_
      refine uA 30 ?_
      refine zA 31 ?_
      refine dA ?_
      try go_wp2
      go_ret
      exact ⟨rE, (hX HB.out)⟩
     rw [if_pos rfl] at H
     replace H := bE H; obtain ⟨t107, A29, H⟩ := H
     cases t107
     case false =>
      rw [if_neg nft] at H
      obtain rfl := sI H
      try go_wp2
      have nv1 : Aside0 ((((wv1.setCell ⟨gbv1, 0, none⟩ (.int .i64 ((rd_T165 l0_2 x3_2).f0))).setCell ⟨gbv1, 1, none⟩ (.int .i64 ((rd_T165 l0_2 x3_2).f1))).setCell ⟨gbv1, 2, none⟩ (.int .i64 ((rd_T165 l0_2 x3_2).f2))).heap[gbz1]? = some (.cells #[.int .i64 a0_0, .int .i64 a0_1, .slice (some adv1) l0_2.length c0_2, .int .i64 a0_3, .slice A0_4 l0_4.length c0_4] 162 (0, 0))) := ⟨(bF BKz1.out)⟩
      have nv2 : Aside0 ((((wv1.setCell ⟨gbv1, 0, none⟩ (.int .i64 ((rd_T165 l0_2 x3_2).f0))).setCell ⟨gbv1, 1, none⟩ (.int .i64 ((rd_T165 l0_2 x3_2).f1))).setCell ⟨gbv1, 2, none⟩ (.int .i64 ((rd_T165 l0_2 x3_2).f2))).heap[gbv1]? = some (.cells #[.int .i64 ((rd_T165 l0_2 x3_2).f0), .int .i64 ((rd_T165 l0_2 x3_2).f1), .int .i64 ((rd_T165 l0_2 x3_2).f2)] 165 (0, 0))) := ⟨(bP BKv1.out)⟩
      have nv3 : Aside0 (Below w.heap.size w (((wv1.setCell ⟨gbv1, 0, none⟩ (.int .i64 ((rd_T165 l0_2 x3_2).f0))).setCell ⟨gbv1, 1, none⟩ (.int .i64 ((rd_T165 l0_2 x3_2).f1))).setCell ⟨gbv1, 2, none⟩ (.int .i64 ((rd_T165 l0_2 x3_2).f2)))) := ⟨(hX HB.out)⟩
      (try clear BKz1)
      (try clear BKv1)
      (try clear HB)
      generalize (((wv1.setCell ⟨gbv1, 0, none⟩ (.int .i64 ((rd_T165 l0_2 x3_2).f0))).setCell ⟨gbv1, 1, none⟩ (.int .i64 ((rd_T165 l0_2 x3_2).f1))).setCell ⟨gbv1, 2, none⟩ (.int .i64 ((rd_T165 l0_2 x3_2).f2))) = wv2 at nv1 nv2 nv3 ⊢
      have BKz1 := nv1
      have BKv1 := nv2
      have HB := nv3
      clear nv1 nv2 nv3
      have hcb0_ := cV3 BKv1.out
      refine sR0 32 spec_DescOk.tab9 spec_DescOk.bits9 (fun HT_ HW_ hHeld => ?_)
      refine zA 0 ?_
      refine tA 1 ?_
      refine eD 2 Tryz.func43 (spec_l1In.calls _ _ _ _ _ A27.out) (fun nd hHeld => ?_)
      refine zA 3 ?_
      refine zA 4 ?_
      refine zA 5 ?_
      refine tA 6 ?_
      refine eD 7 Tryz.func43 (spec_l1In.calls _ _ _ _ _ A29.out) (fun nd hHeld => ?_)
      refine zA 8 ?_
      refine zA 9 ?_
      refine zA 10 ?_
      refine uA 11 ?_
      refine uA 12 ?_
      refine uA 13 ?_
      refine uA 14 ?_
      refine zA 15 ?_
      refine zA 16 ?_
      refine uA 17 ?_
      refine uA 18 ?_
      refine uA 19 ?_
      refine uA 20 ?_
      refine uA 21 ?_
      refine uA 22 ?_
      refine uA 23 ?_
      refine uA 24 ?_
      refine uA 25 ?_
      refine uA 26 ?_
      refine uA 27 ?_
      refine uA 28 ?_
      refine uA 29 ?_
      refine uA 30 ?_
      refine zA 31 ?_
      refine dA ?_
      try go_wp2
      go_ret
      exact ⟨rE, (hX HB.out)⟩
     rw [if_pos rfl] at H
     replace H := bE H; obtain ⟨t108, A31, H⟩ := H
     cases t108
     case false =>
      rw [if_neg nft] at H
      obtain rfl := sI H
      try go_wp2
      have nv1 : Aside0 ((((wv1.setCell ⟨gbv1, 0, none⟩ (.int .i64 ((rd_T165 l0_2 x3_2).f0))).setCell ⟨gbv1, 1, none⟩ (.int .i64 ((rd_T165 l0_2 x3_2).f1))).setCell ⟨gbv1, 2, none⟩ (.int .i64 ((rd_T165 l0_2 x3_2).f2))).heap[gbz1]? = some (.cells #[.int .i64 a0_0, .int .i64 a0_1, .slice (some adv1) l0_2.length c0_2, .int .i64 a0_3, .slice A0_4 l0_4.length c0_4] 162 (0, 0))) := ⟨(bF BKz1.out)⟩
      have nv2 : Aside0 ((((wv1.setCell ⟨gbv1, 0, none⟩ (.int .i64 ((rd_T165 l0_2 x3_2).f0))).setCell ⟨gbv1, 1, none⟩ (.int .i64 ((rd_T165 l0_2 x3_2).f1))).setCell ⟨gbv1, 2, none⟩ (.int .i64 ((rd_T165 l0_2 x3_2).f2))).heap[gbv1]? = some (.cells #[.int .i64 ((rd_T165 l0_2 x3_2).f0), .int .i64 ((rd_T165 l0_2 x3_2).f1), .int .i64 ((rd_T165 l0_2 x3_2).f2)] 165 (0, 0))) := ⟨(bP BKv1.out)⟩
      have nv3 : Aside0 (Below w.heap.size w (((wv1.setCell ⟨gbv1, 0, none⟩ (.int .i64 ((rd_T165 l0_2 x3_2).f0))).setCell ⟨gbv1, 1, none⟩ (.int .i64 ((rd_T165 l0_2 x3_2).f1))).setCell ⟨gbv1, 2, none⟩ (.int .i64 ((rd_T165 l0_2 x3_2).f2)))) := ⟨(hX HB.out)⟩
      (try clear BKz1)
      (try clear BKv1)
      (try clear HB)
      generalize (((wv1.setCell ⟨gbv1, 0, none⟩ (.int .i64 ((rd_T165 l0_2 x3_2).f0))).setCell ⟨gbv1, 1, none⟩ (.int .i64 ((rd_T165 l0_2 x3_2).f1))).setCell ⟨gbv1, 2, none⟩ (.int .i64 ((rd_T165 l0_2 x3_2).f2))) = wv2 at nv1 nv2 nv3 ⊢
      have BKz1 := nv1
      have BKv1 := nv2
      have HB := nv3
      clear nv1 nv2 nv3
      have hcb0_ := cV3 BKv1.out
      refine sR0 32 spec_DescOk.tab9 spec_DescOk.bits9 (fun HT_ HW_ hHeld => ?_)
      refine zA 0 ?_
      refine tA 1 ?_
      refine eD 2 Tryz.func43 (spec_l1In.calls _ _ _ _ _ A27.out) (fun nd hHeld => ?_)
      refine zA 3 ?_
      refine zA 4 ?_
      refine zA 5 ?_
      refine tA 6 ?_
      refine eD 7 Tryz.func43 (spec_l1In.calls _ _ _ _ _ A29.out) (fun nd hHeld => ?_)
      refine zA 8 ?_
      refine zA 9 ?_
      refine zA 10 ?_
      refine zA 11 ?_
      refine tA 12 ?_
      refine eD 13 Tryz.func43 (spec_l1In.calls _ _ _ _ _ A31.out) (fun nd hHeld => ?_)
      refine zA 14 ?_
      refine zA 15 ?_
      refine zA 16 ?_
      refine uA 17 ?_
      refine uA 18 ?_
      refine uA 19 ?_
      refine uA 20 ?_
      refine uA 21 ?_
      refine uA 22 ?_
      refine uA 23 ?_
      refine uA 24 ?_
      refine uA 25 ?_
      refine uA 26 ?_
      refine uA 27 ?_
      refine uA 28 ?_
      refine uA 29 ?_
      refine uA 30 ?_
      refine zA 31 ?_
      refine dA ?_
      try go_wp2
      go_ret
      exact ⟨rE, (hX HB.out)⟩
     rw [if_pos rfl] at H
     revert H; refine iN (fun c33b0 H => ?_) (fun c33b0 H => ?_)
     ·have H' := aM H
      clear H
      try go_wp2
      have nv1 : Aside0 ((((wv1.setCell ⟨gbv1, 0, none⟩ (.int .i64 ((rd_T165 l0_2 x3_2).f0))).setCell ⟨gbv1, 1, none⟩ (.int .i64 ((rd_T165 l0_2 x3_2).f1))).setCell ⟨gbv1, 2, none⟩ (.int .i64 ((rd_T165 l0_2 x3_2).f2))).heap[gbz1]? = some (.cells #[.int .i64 a0_0, .int .i64 a0_1, .slice (some adv1) l0_2.length c0_2, .int .i64 a0_3, .slice A0_4 l0_4.length c0_4] 162 (0, 0))) := ⟨(bF BKz1.out)⟩
      have nv2 : Aside0 ((((wv1.setCell ⟨gbv1, 0, none⟩ (.int .i64 ((rd_T165 l0_2 x3_2).f0))).setCell ⟨gbv1, 1, none⟩ (.int .i64 ((rd_T165 l0_2 x3_2).f1))).setCell ⟨gbv1, 2, none⟩ (.int .i64 ((rd_T165 l0_2 x3_2).f2))).heap[gbv1]? = some (.cells #[.int .i64 ((rd_T165 l0_2 x3_2).f0), .int .i64 ((rd_T165 l0_2 x3_2).f1), .int .i64 ((rd_T165 l0_2 x3_2).f2)] 165 (0, 0))) := ⟨(bP BKv1.out)⟩
      have nv3 : Aside0 (Below w.heap.size w (((wv1.setCell ⟨gbv1, 0, none⟩ (.int .i64 ((rd_T165 l0_2 x3_2).f0))).setCell ⟨gbv1, 1, none⟩ (.int .i64 ((rd_T165 l0_2 x3_2).f1))).setCell ⟨gbv1, 2, none⟩ (.int .i64 ((rd_T165 l0_2 x3_2).f2)))) := ⟨(hX HB.out)⟩
      (try clear BKz1)
      (try clear BKv1)
      (try clear HB)
      generalize (((wv1.setCell ⟨gbv1, 0, none⟩ (.int .i64 ((rd_T165 l0_2 x3_2).f0))).setCell ⟨gbv1, 1, none⟩ (.int .i64 ((rd_T165 l0_2 x3_2).f1))).setCell ⟨gbv1, 2, none⟩ (.int .i64 ((rd_T165 l0_2 x3_2).f2))) = wv2 at nv1 nv2 nv3 ⊢
      have BKz1 := nv1
      have BKv1 := nv2
      have HB := nv3
      clear nv1 nv2 nv3
      have hcb0_ := cV3 BKv1.out
      refine sR0 32 spec_DescOk.tab9 spec_DescOk.bits9 (fun HT_ HW_ hHeld => ?_)
      refine zA 0 ?_
      refine tA 1 ?_
      refine eD 2 Tryz.func43 (spec_l1In.calls _ _ _ _ _ A27.out) (fun nd hHeld => ?_)
      refine zA 3 ?_
      refine zA 4 ?_
      refine zA 5 ?_
      refine tA 6 ?_
      refine eD 7 Tryz.func43 (spec_l1In.calls _ _ _ _ _ A29.out) (fun nd hHeld => ?_)
      refine zA 8 ?_
      refine zA 9 ?_
      refine zA 10 ?_
      refine zA 11 ?_
      refine tA 12 ?_
      refine eD 13 Tryz.func43 (spec_l1In.calls _ _ _ _ _ A31.out) (fun nd hHeld => ?_)
      refine zA 14 ?_
      refine zA 15 ?_
      refine zA 16 ?_
      refine zA 17 ?_
      refine zA 18 ?_
      refine zA 19 ?_
      refine uA 20 ?_
      refine uA 21 ?_
      refine uA 22 ?_
      refine uA 23 ?_
      refine uA 24 ?_
      refine uA 25 ?_
      refine uA 26 ?_
      refine uA 27 ?_
      refine uA 28 ?_
      refine uA 29 ?_
      refine zA 30 ?_
      refine zA 31 ?_
      refine dA ?_
      try go_wp2
      go_roundg k2
      case measure => have := HJy1.out; have := HKw1.out; omega
      case rel => exact ⟨(wrap64 (x3_2 + 1)), rS, H', ⟨by have := HJy1.out; have := HKw1.out; omega⟩, ⟨(bX BKz1.out)⟩, ⟨(hX HB.out)⟩⟩
     obtain ⟨ji34, hji34⟩ : ∃ j_ : Int, (wrap64 (x3_2 - 1)) = j_ := ⟨_, rfl⟩
     replace H : (if 0 ≤ (ji34) then (if (ji34) < (l0_2.length : Int) then (if ((rd_T165 l0_2 (ji34)).f0) ≥ ((rd_T165 l0_2 x3_2).f0) then (some false) else (spec_DescOk.l0 k2 (wrap64 (x3_2 + 1)) a0_0 a0_1 l0_2 a0_3 l0_4)) else (none)) else (none)) = some r := by first | (rw [hji34] at H; exact H) | (simp only [hji34] at H ⊢; exact H)
     (try rw [hji34] at A27)
     (try rw [hji34] at A29)
     (try rw [hji34] at A31)
     have hji34w : (IntKind.i64.wrap (x3_2 - 1)) = ji34 := (i64_w _).trans hji34
     replace H := ifQ H; obtain ⟨c35b0, H⟩ := H
     replace H := ifQ H; obtain ⟨c36b0, H⟩ := H
     revert H; refine iP (fun c37b0 H => ?_) (fun c37b0 H => ?_)
     ·obtain rfl := sI H
      try go_wp2
      have nv1 : Aside0 ((((wv1.setCell ⟨gbv1, 0, none⟩ (.int .i64 ((rd_T165 l0_2 x3_2).f0))).setCell ⟨gbv1, 1, none⟩ (.int .i64 ((rd_T165 l0_2 x3_2).f1))).setCell ⟨gbv1, 2, none⟩ (.int .i64 ((rd_T165 l0_2 x3_2).f2))).heap[gbz1]? = some (.cells #[.int .i64 a0_0, .int .i64 a0_1, .slice (some adv1) l0_2.length c0_2, .int .i64 a0_3, .slice A0_4 l0_4.length c0_4] 162 (0, 0))) := ⟨(bF BKz1.out)⟩
      have nv2 : Aside0 ((((wv1.setCell ⟨gbv1, 0, none⟩ (.int .i64 ((rd_T165 l0_2 x3_2).f0))).setCell ⟨gbv1, 1, none⟩ (.int .i64 ((rd_T165 l0_2 x3_2).f1))).setCell ⟨gbv1, 2, none⟩ (.int .i64 ((rd_T165 l0_2 x3_2).f2))).heap[gbv1]? = some (.cells #[.int .i64 ((rd_T165 l0_2 x3_2).f0), .int .i64 ((rd_T165 l0_2 x3_2).f1), .int .i64 ((rd_T165 l0_2 x3_2).f2)] 165 (0, 0))) := ⟨(bP BKv1.out)⟩
      have nv3 : Aside0 (Below w.heap.size w (((wv1.setCell ⟨gbv1, 0, none⟩ (.int .i64 ((rd_T165 l0_2 x3_2).f0))).setCell ⟨gbv1, 1, none⟩ (.int .i64 ((rd_T165 l0_2 x3_2).f1))).setCell ⟨gbv1, 2, none⟩ (.int .i64 ((rd_T165 l0_2 x3_2).f2)))) := ⟨(hX HB.out)⟩
      (try clear BKz1)
      (try clear BKv1)
      (try clear HB)
      generalize (((wv1.setCell ⟨gbv1, 0, none⟩ (.int .i64 ((rd_T165 l0_2 x3_2).f0))).setCell ⟨gbv1, 1, none⟩ (.int .i64 ((rd_T165 l0_2 x3_2).f1))).setCell ⟨gbv1, 2, none⟩ (.int .i64 ((rd_T165 l0_2 x3_2).f2))) = wv2 at nv1 nv2 nv3 ⊢
      have BKz1 := nv1
      have BKv1 := nv2
      have HB := nv3
      clear nv1 nv2 nv3
      obtain ⟨adv2, ev2, pv2, qv2, hxv4⟩ := at_T165c HR0_2 HB (ji34)
      obtain rfl : adv1 = adv2 := (by injection ev2)
      have hcb0_ := cV3 BKv1.out
      have hcb1_ := cV5 BKz1.out
      refine sR0 32 spec_DescOk.tab9 spec_DescOk.bits9 (fun HT_ HW_ hHeld => ?_)
      refine zA 0 ?_
      refine tA 1 ?_
      refine eD 2 Tryz.func43 (spec_l1In.calls _ _ _ _ _ A27.out) (fun nd hHeld => ?_)
      refine zA 3 ?_
      refine zA 4 ?_
      refine zA 5 ?_
      refine tA 6 ?_
      refine eD 7 Tryz.func43 (spec_l1In.calls _ _ _ _ _ A29.out) (fun nd hHeld => ?_)
      refine zA 8 ?_
      refine zA 9 ?_
      refine zA 10 ?_
      refine zA 11 ?_
      refine tA 12 ?_
      refine eD 13 Tryz.func43 (spec_l1In.calls _ _ _ _ _ A31.out) (fun nd hHeld => ?_)
      refine zA 14 ?_
      refine zA 15 ?_
      refine zA 16 ?_
      refine zA 17 ?_
      refine zA 18 ?_
      refine zA 19 ?_
      refine zA 20 ?_
      refine zA 22 ?_
      refine zA 23 ?_
      refine zA 27 ?_
      refine tA 21 ?_
      refine zA 24 ?_
      refine zA 25 ?_
      refine tA 26 ?_
      refine tA 28 ?_
      refine zA 29 ?_
      refine zA 30 ?_
      refine zA 31 ?_
      refine dA ?_
      try go_wp2
      go_ret
      exact ⟨by first | rfl | (simp [errW_none, errW_some] <;> rfl) | (simp only [← hji34]; first | rfl | (simp [errW_none, errW_some] <;> rfl)) | (simp [*, errW_none, errW_some] <;> rfl), (hX HB.out)⟩
     have H' := aM H
     clear H
     try go_wp2
     have nv1 : Aside0 ((((wv1.setCell ⟨gbv1, 0, none⟩ (.int .i64 ((rd_T165 l0_2 x3_2).f0))).setCell ⟨gbv1, 1, none⟩ (.int .i64 ((rd_T165 l0_2 x3_2).f1))).setCell ⟨gbv1, 2, none⟩ (.int .i64 ((rd_T165 l0_2 x3_2).f2))).heap[gbz1]? = some (.cells #[.int .i64 a0_0, .int .i64 a0_1, .slice (some adv1) l0_2.length c0_2, .int .i64 a0_3, .slice A0_4 l0_4.length c0_4] 162 (0, 0))) := ⟨(bF BKz1.out)⟩
     have nv2 : Aside0 ((((wv1.setCell ⟨gbv1, 0, none⟩ (.int .i64 ((rd_T165 l0_2 x3_2).f0))).setCell ⟨gbv1, 1, none⟩ (.int .i64 ((rd_T165 l0_2 x3_2).f1))).setCell ⟨gbv1, 2, none⟩ (.int .i64 ((rd_T165 l0_2 x3_2).f2))).heap[gbv1]? = some (.cells #[.int .i64 ((rd_T165 l0_2 x3_2).f0), .int .i64 ((rd_T165 l0_2 x3_2).f1), .int .i64 ((rd_T165 l0_2 x3_2).f2)] 165 (0, 0))) := ⟨(bP BKv1.out)⟩
     have nv3 : Aside0 (Below w.heap.size w (((wv1.setCell ⟨gbv1, 0, none⟩ (.int .i64 ((rd_T165 l0_2 x3_2).f0))).setCell ⟨gbv1, 1, none⟩ (.int .i64 ((rd_T165 l0_2 x3_2).f1))).setCell ⟨gbv1, 2, none⟩ (.int .i64 ((rd_T165 l0_2 x3_2).f2)))) := ⟨(hX HB.out)⟩
     (try clear BKz1)
     (try clear BKv1)
     (try clear HB)
     generalize (((wv1.setCell ⟨gbv1, 0, none⟩ (.int .i64 ((rd_T165 l0_2 x3_2).f0))).setCell ⟨gbv1, 1, none⟩ (.int .i64 ((rd_T165 l0_2 x3_2).f1))).setCell ⟨gbv1, 2, none⟩ (.int .i64 ((rd_T165 l0_2 x3_2).f2))) = wv2 at nv1 nv2 nv3 ⊢
     have BKz1 := nv1
     have BKv1 := nv2
     have HB := nv3
     clear nv1 nv2 nv3
     obtain ⟨adv2, ev2, pv2, qv2, hxv4⟩ := at_T165c HR0_2 HB (ji34)
     obtain rfl : adv1 = adv2 := (by injection ev2)
     have hcb0_ := cV3 BKv1.out
     have hcb1_ := cV5 BKz1.out
     refine sR0 32 spec_DescOk.tab9 spec_DescOk.bits9 (fun HT_ HW_ hHeld => ?_)
     refine zA 0 ?_
     refine tA 1 ?_
     refine eD 2 Tryz.func43 (spec_l1In.calls _ _ _ _ _ A27.out) (fun nd hHeld => ?_)
     refine zA 3 ?_
     refine zA 4 ?_
     refine zA 5 ?_
     refine tA 6 ?_
     refine eD 7 Tryz.func43 (spec_l1In.calls _ _ _ _ _ A29.out) (fun nd hHeld => ?_)
     refine zA 8 ?_
     refine zA 9 ?_
     refine zA 10 ?_
     refine zA 11 ?_
     refine tA 12 ?_
     refine eD 13 Tryz.func43 (spec_l1In.calls _ _ _ _ _ A31.out) (fun nd hHeld => ?_)
     refine zA 14 ?_
     refine zA 15 ?_
     refine zA 16 ?_
     refine zA 17 ?_
     refine zA 18 ?_
     refine zA 19 ?_
     refine zA 20 ?_
     refine zA 22 ?_
     refine zA 23 ?_
     refine zA 27 ?_
     refine tA 21 ?_
     refine zA 24 ?_
     refine zA 25 ?_
     refine tA 26 ?_
     refine tA 28 ?_
     refine zA 29 ?_
     refine zA 30 ?_
     refine zA 31 ?_
     refine dA ?_
     try go_wp2
     go_roundg k2
     case measure => have := HJy1.out; have := HKw1.out; omega
     case rel => exact ⟨(wrap64 (x3_2 + 1)), rS, H', ⟨by have := HJy1.out; have := HKw1.out; omega⟩, ⟨(bX BKz1.out)⟩, ⟨(hX HB.out)⟩⟩
def spec_WordOk.f (a0_0 : Int) (a0_1 : Int) (a0_2 : Int) (a1 : Int) : Option (Bool) := if a0_1 = 0 then (if a0_2 = 0 then ((spec_l1In.f a0_0 0 1000).bind fun t102 => (some t102)) else (some false)) else (if a0_0 = 0 then ((spec_l1In.f a0_1 1 a1).bind fun t103 => (if t103 = true then ((spec_l1In.f a0_2 1 1000000).bind fun t104 => (some t104)) else (some false))) else (some false))
theorem spec_WordOk.calls (a0_0 : Int) (a0_1 : Int) (a0_2 : Int) (a1 : Int) (r : Bool) (w : World) (h : spec_WordOk.f a0_0 a0_1 a0_2 a1 = some r) :
  Calls Tryz.prog 157 #[.agg #[.int .i64 a0_0, .int .i64 a0_1, .int .i64 a0_2], .int .i64 a1] w fun e w' => e = .returned (.bool r) ∧ Below w.heap.size w w' := by
 have hu140 := Tryz.underlying140
 have HB := aM (Below.refl w.heap.size w)
 have H := h
 unfold spec_WordOk.f at H
 clear h
 go_enter Tryz.func157, Tryz.ntmps157
 go_wp2_with (refine boxE 2 #[.int .i64 a0_0, .int .i64 a0_1, .int .i64 a0_2] 140 ?_; intro gbz1 hg wz1 hbox hb; have BKz1 := aM (hbox); have GWz1 := aG hg HB; have GEz1 := aG hg HB; replace HB := aS HB hb; clear hb hbox hg; have hczz1 := cZ3 BKz1.out; refine Stop.out ?_)
 refine ⟨?_⟩
 revert H; refine eP (fun c3b0 c3b1 H => ?_) (fun c3b0 c3b1 H => ?_)
 ·revert H; refine eN (fun c4b0 c4b1 H => ?_) (fun c4b0 c4b1 H => ?_)
  ·obtain rfl := sI H
   exact fS
  replace H := bE H; obtain ⟨t102, A5, H⟩ := H
  obtain rfl := sI H
  go_wp2_with (go_at_call 43; (with_reducible refine (spec_l1In.calls _ _ _ _ _ A5.out).mono ?_); rintro e w' ⟨rfl, ⟨nd, rfl⟩⟩)
  go_ret
  exact ⟨rE, (hX HB.out)⟩
 revert H; refine eN (fun c10b0 c10b1 H => ?_) (fun c10b0 c10b1 H => ?_)
 ·obtain rfl := sI H
  exact fS
 replace H := bE H; obtain ⟨t103, A11, H⟩ := H
 cases t103
 case false =>
  rw [if_neg nft] at H
  obtain rfl := sI H
  go_wp2_with (go_at_call 43; (with_reducible refine (spec_l1In.calls _ _ _ _ _ A11.out).mono ?_); rintro e w' ⟨rfl, ⟨nd, rfl⟩⟩)
  go_ret
  exact ⟨rE, (hX HB.out)⟩
 rw [if_pos rfl] at H
 replace H := bE H; obtain ⟨t104, A13, H⟩ := H
 obtain rfl := sI H
 go_wp2_with (first | (go_at_call 43; (with_reducible refine (spec_l1In.calls _ _ _ _ _ A11.out).mono ?_); rintro e w' ⟨rfl, ⟨nd, rfl⟩⟩) | (go_at_call 43; (with_reducible refine (spec_l1In.calls _ _ _ _ _ A13.out).mono ?_); rintro e w' ⟨rfl, ⟨nd, rfl⟩⟩))
 go_ret
 exact ⟨rE, (hX HB.out)⟩
def spec_Entries.l0 : Nat → Int → Int → Int → Int → List (S165) → Int → List Int → Option (Int × Int × Int × Bool)
 | 0, _, _, _, _, _, _, _ => none
 | k + 1, x1, x6, x102000, x102001, x102002, x102003, x102004 => if x6 < (x102002.length : Int) then (if 0 ≤ x6 then (if ((rd_T165 x102002 x6).f0) = x1 then (some ((rd_T165 x102002 x6).f0, (rd_T165 x102002 x6).f1, (rd_T165 x102002 x6).f2, true)) else (spec_Entries.l0 k x1 (wrap64 (x6 + 1)) x102000 x102001 x102002 x102003 x102004)) else (none)) else (some (0, 0, 0, false))
def spec_Entries.f (k : Nat) (a0_0 : Int) (a0_1 : Int) (l0_2 : List (S165)) (a0_3 : Int) (l0_4 : List Int) (a1 : Int) : Option (Int × Int × Int × Bool) := spec_Entries.l0 k a1 0 a0_0 a0_1 l0_2 a0_3 l0_4
theorem spec_Entries.calls (k : Nat) (a0_0 : Int) (a0_1 : Int) (A0_2 : Option Addr) (c0_2 : Nat) (l0_2 : List (S165)) (a0_3 : Int) (A0_4 : Option Addr) (c0_4 : Nat) (l0_4 : List Int) (a1 : Int) (r1 : Int) (r2 : Int) (r3 : Int) (r4 : Bool) (w : World) (hr0_2 : Kd.C k165 w A0_2 l0_2.length l0_2) (hc0_2 : l0_2.length ≤ c0_2) (hr0_4 : Kd.C (Kd.int .i64) w A0_4 l0_4.length l0_4) (hc0_4 : l0_4.length ≤ c0_4) (h : spec_Entries.f k a0_0 a0_1 l0_2 a0_3 l0_4 a1 = some (r1, r2, r3, r4)) :
  Calls Tryz.prog 158 #[.agg #[.int .i64 a0_0, .int .i64 a0_1, .slice A0_2 l0_2.length c0_2, .int .i64 a0_3, .slice A0_4 l0_4.length c0_4], .int .i64 a1] w fun e w' => e = .returned (.tuple #[.agg #[.int .i64 r1, .int .i64 r2, .int .i64 r3], .bool r4]) ∧ Below w.heap.size w w' := by
 have hu162 := Tryz.underlying162
 have hu165 := Tryz.underlying165
 have HR0_2 := aM hr0_2
 have HC0_2 := aM hc0_2
 clear hr0_2 hc0_2
 have HR0_4 := aM hr0_4
 have HC0_4 := aM hc0_4
 clear hr0_4 hc0_4
 have HB := aM (Below.refl w.heap.size w)
 have H := h
 unfold spec_Entries.f at H
 clear h
 have H' := aM H
 clear H
 go_enter Tryz.func158, Tryz.ntmps158
 go_wp2_with (first | (refine boxE 2 #[.int .i64 a0_0, .int .i64 a0_1, .slice A0_2 l0_2.length c0_2, .int .i64 a0_3, .slice A0_4 l0_4.length c0_4] 162 ?_; intro gbz1 hg wz1 hbox hb; have BKz1 := aM (hbox); have GWz1 := aG hg HB; have GEz1 := aG hg HB; replace HB := aS HB hb; clear hb hbox hg) | (refine boxE 4 #[.int .i64 0, .int .i64 0, .int .i64 0] 165 ?_; intro gbz2 hg wz2 hbox hb; have BKz2 := aM (hbox); have GWz2 := aG hg HB; have GEz2 := aG hg HB; have NBz1 := aL hg BKz1; have NBz2 := aR hg BKz1; replace BKz1 := aB BKz1 hb; replace HB := aS HB hb; clear hb hbox hg))
 go_loopg [6] k (fun kq v6 w' => ∃ (x6_1 : Int) (x103000_1 : Int) (x103001_1 : Int) (x103002_1 : Int), v6 = .int .i64 x6_1 ∧ Aside0 (spec_Entries.l0 kq a1 x6_1 a0_0 a0_1 l0_2 a0_3 l0_4 = some (r1, r2, r3, r4)) ∧ Aside0 (kq ≤ k) ∧ Aside0 (w'.heap[gbz1]? = some (.cells #[.int .i64 a0_0, .int .i64 a0_1, (.slice A0_2 l0_2.length c0_2), .int .i64 a0_3, (.slice A0_4 l0_4.length c0_4)] 162 (0, 0))) ∧ Aside0 (w'.heap[gbz2]? = some (.cells #[.int .i64 x103000_1, .int .i64 x103001_1, .int .i64 x103002_1] 165 (0, 0))) ∧ Aside0 (Below w.heap.size w w'))
 case atStart => exact ⟨(0), (0), (0), (0), rS, H', ⟨Nat.le_refl _⟩, ⟨(bX BKz1.out)⟩, ⟨(bX BKz2.out)⟩, ⟨(hX HB.out)⟩⟩
 case round =>
  clear H'
  obtain ⟨x6_1, x103000_1, x103001_1, x103002_1, rfl, HA, HKy1, BKz1, BKz2, HB⟩ := hrel
  cases gk with
  | zero => exact absurd HA.out (by simp [spec_Entries.l0])
  | succ k1 =>
   have H := HA.out
   clear HA
   simp only [spec_Entries.l0] at H
   revert H; refine iN (fun c5b0 H => ?_) (fun c5b0 H => ?_)
   ·simp only [Option.some.injEq, Prod.mk.injEq] at H
    obtain ⟨rfl, rfl, rfl, rfl⟩ := H
    have hnbx1 := NBz1.out
    have hncx1 := NBz2.out
    have hczx1 := cZ5 BKz1.out
    have hczx6 := cZ3 BKz2.out
    go_wp2
    refine bodyPost_ret (results_ct rfl _ _ gbz2 165 #[.int .i64 0, .int .i64 0, .int .i64 0] (0, 0) _ rfl (bP BKz2.out) Tryz.underlying165 rfl (by kernel_rfl)) rfl ?_
    exact ⟨rE, (hX HB.out)⟩
   replace H := ifQ H; obtain ⟨c6b0, H⟩ := H
   revert H; refine eN (fun c7b0 c7b1 H => ?_) (fun c7b0 c7b1 H => ?_)
   ·have H' := aM H
    clear H
    have hnbx1 := NBz1.out
    have hncx1 := NBz2.out
    have hczx1 := cZ5 BKz1.out
    obtain ⟨adx1, ex1, px1, qx1, hxx1⟩ := at_T165c HR0_2 HB x6_1
    cases ex1
    go_wp2
    go_roundg k1
    case measure => have := HKy1.out; omega
    case rel => exact ⟨(wrap64 (x6_1 + 1)), (x103000_1), (x103001_1), (x103002_1), rS, H', ⟨by have := HKy1.out; omega⟩, ⟨(bX BKz1.out)⟩, ⟨(bX BKz2.out)⟩, ⟨(hX HB.out)⟩⟩
   simp only [Option.some.injEq, Prod.mk.injEq] at H
   obtain ⟨rfl, rfl, rfl, rfl⟩ := H
   have hnbx1 := NBz1.out
   have hncx1 := NBz2.out
   have hczx1 := cZ5 BKz1.out
   obtain ⟨adx1, ex1, px1, qx1, hxx1⟩ := at_T165c HR0_2 HB x6_1
   cases ex1
   obtain ⟨adx2, ex2, px2, qx2, hxx4⟩ := at_T165c HR0_2 HB x6_1
   obtain rfl : adx1 = adx2 := (by injection ex2)
   have hczx6 := cZ3 BKz2.out
   go_wp2
   refine bodyPost_ret (results_ct rfl _ _ gbz2 165 #[.int .i64 ((rd_T165 l0_2 x6_1).f0), .int .i64 ((rd_T165 l0_2 x6_1).f1), .int .i64 ((rd_T165 l0_2 x6_1).f2)] (0, 0) _ rfl (bP BKz2.out) Tryz.underlying165 rfl (by kernel_rfl)) rfl ?_
   exact ⟨rE, (hX HB.out)⟩
end Go.Proofs.YtmljebgideecjaaGreat.P2
