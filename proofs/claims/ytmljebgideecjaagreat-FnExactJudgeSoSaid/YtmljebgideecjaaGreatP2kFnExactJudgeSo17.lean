/- A part of the proof of the law FnExactJudgeSo: texts of this seat, merged (words, printed functions of the program, plain lemmas). Conditions: none of its own. -/
import Derived.Test.YtmljebgideecjaaGreatP2kFnExactJudgeSo1
import Derived.Test.YtmljebgideecjaaGreatP2kFnExactJudgeSo4
import Derived.Test.YtmljebgideecjaaGreatP2kFnExactJudgeSo5
import Derived.Test.YtmljebgideecjaaGreatP2kFnExactJudgeSo6
import Derived.Test.YtmljebgideecjaaGreatP2kFnExactJudgeSo12
import Derived.Test.YtmljebgideecjaaGreatP2kFnExactJudgeSo13
import Derived.Test.YtmljebgideecjaaGreatP2kFnExactJudgeSo14
import Derived.Test.YtmljebgideecjaaGreatP2kFnExactJudgeSo16
set_option linter.unusedSimpArgs false
set_option linter.unusedVariables false
set_option maxHeartbeats 8000000
set_option maxRecDepth 100000
namespace Go.Proofs.YtmljebgideecjaaGreat.P2
open Go.Proofs.YtmljebgideecjaaGreatZ Go.RowKit Go.Proofs.YtmljebgideecjaaGreatW.PrintWords Go.Proofs.YtmljebgideecjaaGreatW.PrintLast Go.Proofs.YtmljebgideecjaaGreatW.PrintMore
attribute [local go_sem] max2_int min2_int max_two min_two max_three min_three max_four min_four   -- for this text's walks alone
def spec_l4Done.f (k : Nat) (l0_0 : List Int) (a0_1 : Int) (a1_0 : Int) (a1_1 : Int) (a1_2 : Int) : Option (List Int × Bool) := (some (([] : List Int) : List Int)).bind fun y103 => ((spec_KeyOf.f k l0_0 a0_1 a1_2).bind fun t106 => (if a1_0 = 1 then (if 0 ≤ a1_1 then (if a1_1 < (l0_0.length : Int) then (if (rd l0_0 a1_1) = 0 then (some (y103, decide (t106 < 0))) else (some (y103, false))) else (none)) else (none)) else (if a1_0 = 2 then (if 0 ≤ a1_1 then (if a1_1 < (l0_0.length : Int) then (if (rd l0_0 a1_1) = 0 then (some (y103, false)) else (if t106 < 0 then (some (y103, true)) else (some (y103, (t106 == a1_1))))) else (none)) else (none)) else (if a1_0 = 3 then (if 0 ≤ a1_1 then (if a1_1 < (l0_0.length : Int) then (some (y103, ((rd l0_0 a1_1) != 0))) else (none)) else (none)) else (if a1_0 = 4 then (if 0 ≤ a1_1 then (if a1_1 < (l0_0.length : Int) then (some ((([rd l0_0 a1_1] : List Int)), ((rd l0_0 a1_1) != 0))) else (none)) else (none)) else (if a1_0 = 5 then (some ((([t106] : List Int)), decide (t106 ≥ 0))) else (if a1_0 = 6 then ((spec_HowMany.f k l0_0 a0_1 a1_1).bind fun t118 => (some ((([t118] : List Int)), true))) else (if a1_0 = 7 then ((some (([] : List Int) : List Int)).bind fun y122 => (if y122.length + l0_0.length < 17592186044416 then (some ((y122 ++ l0_0), true)) else (none))) else (if a1_0 = 8 then (some (y103, (a0_1 == 0))) else (if a1_0 = 9 then ((spec_l1In.f a0_1 1 4).bind fun t128 => (some (y103, t128))) else ((some (([t106] : List Int) : List Int)).bind fun y129 => (if a0_1 = 5 then (some (y129, decide (t106 ≥ 0))) else (some (y129, false))))))))))))))
def spec_l4Done.T7 : Bool × List (List Nat × List Nat) := (true, [([], []), ([], []), ([1], [1]), ([], []), ([3], [3]), ([2, 4], [2, 4]), ([5], [5]), ([6], [6]), ([7], [7]), ([8], [8]), ([9, 8], [8, 9]), ([10, 8, 8], [8, 10]), ([11], [11]), ([11], [11]), ([13, 11], [11, 13]), ([12, 14, 11], [11, 12, 14]), ([11, 15, 8], [8, 11, 15]), ([8, 16], [8, 16]), ([0, 11, 0], [0]), ([17, 18, 0, 1, 2, 3, 4, 5, 6, 7, 8, 9, 10, 11, 12, 13, 14, 15, 16, 17, 18], [17])])
def spec_l4Done.B7 : List Nat := [0, 0, 2, 0, 8, 30, 62, 126, 254, 510, 1022, 2046, 4094, 4094, 12286, 32766, 65534, 131070, 4095, 524287]
theorem spec_l4Done.tab7 : rtab .any (opsOf Tryz.f140 7) = spec_l4Done.T7 := by kernel_rfl
theorem spec_l4Done.bits7 : waitsOk spec_l4Done.T7.2 spec_l4Done.B7 = true := by kernel_rfl
def spec_l4Done.T9 : Bool × List (List Nat × List Nat) := (true, [([], []), ([], []), ([1], [1]), ([], []), ([3], [3]), ([2, 4], [2, 4]), ([5], [5]), ([6], [6]), ([0, 0], [0]), ([7, 8, 0, 1, 2, 3, 4, 5, 6, 7, 8], [7])])
def spec_l4Done.B9 : List Nat := [0, 0, 2, 0, 8, 30, 62, 126, 1, 511]
theorem spec_l4Done.tab9 : rtab .any (opsOf Tryz.f140 9) = spec_l4Done.T9 := by kernel_rfl
theorem spec_l4Done.bits9 : waitsOk spec_l4Done.T9.2 spec_l4Done.B9 = true := by kernel_rfl
def spec_l4Done.T11 : Bool × List (List Nat × List Nat) := (true, [([], []), ([0], [0]), ([], []), ([2], [2]), ([1, 3], [1, 3]), ([4], [4]), ([5], [5]), ([], []), ([7], [7]), ([], []), ([9], [9]), ([8, 10], [8, 10]), ([11], [11]), ([12], [12]), ([6, 0, 1, 2, 3, 4, 5, 6], [6]), ([13, 14, 0, 1, 2, 3, 4, 5, 6, 7, 8, 9, 10, 11, 12, 13, 14], [13])])
def spec_l4Done.B11 : List Nat := [0, 1, 0, 4, 15, 31, 63, 0, 128, 0, 512, 1920, 3968, 8064, 127, 32767]
theorem spec_l4Done.tab11 : rtab .any (opsOf Tryz.f140 11) = spec_l4Done.T11 := by kernel_rfl
theorem spec_l4Done.bits11 : waitsOk spec_l4Done.T11.2 spec_l4Done.B11 = true := by kernel_rfl
theorem spec_l4Done.calls (k : Nat) (A0_0 : Option Addr) (c0_0 : Nat) (l0_0 : List Int) (a0_1 : Int) (a1_0 : Int) (a1_1 : Int) (a1_2 : Int) (r1 : List Int) (r2 : Bool) (w : World) (hr0_0 : Kd.C (Kd.int .i64) w A0_0 l0_0.length l0_0) (hc0_0 : l0_0.length ≤ c0_0) (h : spec_l4Done.f k l0_0 a0_1 a1_0 a1_1 a1_2 = some (r1, r2)) :
  Calls Tryz.prog 140 #[.agg #[.slice A0_0 l0_0.length c0_0, .int .i64 a0_1], .agg #[.int .i64 a1_0, .int .i64 a1_1, .int .i64 a1_2]] w fun e w' => ∃ v0_ : Value, e = .returned (.tuple #[v0_, .bool r2]) ∧ Kd.R (Kd.int .i64) 3 w' w.heap.size (fun _ => True) v0_ r1 ∧ Below w.heap.size w w' := by
 have hu41 := Tryz.underlying41
 have hu69 := Tryz.underlying69
 have HR0_0 := aM hr0_0
 have HC0_0 := aM hc0_0
 clear hr0_0 hc0_0
 have HB := aM (Below.refl w.heap.size w)
 have H := h
 unfold spec_l4Done.f at H
 clear h
 replace H := sE H; obtain ⟨y103, Ny103, H⟩ := H
 replace H := bE H; obtain ⟨t106, A3, H⟩ := H
 go_enter Tryz.func140, Tryz.ntmps140
 go_wp2_with (first | (refine boxE 2 #[.slice A0_0 l0_0.length c0_0, .int .i64 a0_1] 41 ?_; intro gbz1 hg wz1 hbox hb; have BKz1 := aM (hbox); have GWz1 := aG hg HB; have GEz1 := aG hg HB; replace HB := aS HB hb; clear hb hbox hg) | (refine boxE 3 #[.int .i64 a1_0, .int .i64 a1_1, .int .i64 a1_2] 69 ?_; intro gbz2 hg wz2 hbox hb; have BKz2 := aM (hbox); have GWz2 := aG hg HB; have GEz2 := aG hg HB; have NBz1 := aL hg BKz1; have NBz2 := aR hg BKz1; replace BKz1 := aB BKz1 hb; replace HB := aS HB hb; clear hb hbox hg) | ((with_reducible refine gate_dst (N := 8) rfl ?_); refine Kd.R_lit (Kd.int .i64) _ 3 ?hg (N := 8) ?hd (xs := ([] : List Int)) (inner := []) (ok := fun _ => True) (okp := fun _ => True) ?hr ?hp (fun _ hk => hk) trivial (Below.refl _ _) (Nat.le_refl _) (by simp) ?_; (case hd => rfl); (case hg => rfl); (case hr => first | (go_simp; done) | (go_simp; rfl)); (case hp => exact (Reps.none _ _)); intro vz1 wz3 hoz1 hb hg_ hnew_; clear hg_ hnew_; (first | rw [← Ny103.out] at hoz1 | (simp only [Int.reduceToNat] at hoz1; rw [← Ny103.out] at hoz1)); have HOz1 := aM (Kd.R_lower hoz1 (below_size (hX HB.out))); replace BKz1 := aB BKz1 hb; replace BKz2 := aB BKz2 hb; replace HB := aS HB hb; clear hb hoz1; have hnbz1 := NBz1.out; have hncz1 := NBz2.out; have hczz1 := cZ2 BKz1.out; have hczz3 := cZ3 BKz2.out; refine Stop.out ?_))
 refine ⟨?_⟩
 revert H; refine eP (fun c4b0 c4b1 H => ?_) (fun c4b0 c4b1 H => ?_)
 ·replace H := ifP H; obtain ⟨c5, H⟩ := H
  have c5b0 := decide_eq_true c5
  clear c5
  replace H := ifQ H; obtain ⟨c6b0, H⟩ := H
  go_wp2_with (refine gB 160 12 Tryz.func160 (spec_KeyOf.calls _ _ _ _ _ _ _ _ (cC HR0_0.out HB.out) HC0_0.out A3.out) ?_; intro wz4 hb; replace HOz1 := aQ HOz1 hb; replace BKz1 := aB BKz1 hb; replace BKz2 := aB BKz2 hb; replace HB := aS HB hb; clear hb; have hczz6 := cZ3 BKz2.out; have hczz9 := cZ2 BKz1.out; have pz1 : 0 ≤ (a1_1 : Int) := odA; have qz1 : a1_1 < (l0_0.length : Int) := odA; obtain ⟨adz1, ez1, hxz1⟩ := Kd.at_int HR0_0.out a1_1 pz1 qz1; cases ez1; replace hxz1 := bc HB.out hxz1; replace pz1 := eq_true pz1; replace qz1 := eq_true qz1; refine Stop.out ?_)
  refine ⟨?_⟩
  revert H; refine eN (fun c7b0 c7b1 H => ?_) (fun c7b0 c7b1 H => ?_)
  ·simp only [Option.some.injEq, Prod.mk.injEq] at H
   obtain ⟨rfl, rfl⟩ := H
   go_wp2
   go_ret2
   exact ⟨_, rE, (rX HOz1.out), (hX HB.out)⟩
  simp only [Option.some.injEq, Prod.mk.injEq] at H
  obtain ⟨rfl, rfl⟩ := H
  go_wp2
  go_ret2
  exact ⟨_, rE, (rX HOz1.out), (hX HB.out)⟩
 revert H; refine eP (fun c28b0 c28b1 H => ?_) (fun c28b0 c28b1 H => ?_)
 ·replace H := ifP H; obtain ⟨c29, H⟩ := H
  have c29b0 := decide_eq_true c29
  clear c29
  replace H := ifQ H; obtain ⟨c30b0, H⟩ := H
  go_wp2_with (refine gB 160 12 Tryz.func160 (spec_KeyOf.calls _ _ _ _ _ _ _ _ (cC HR0_0.out HB.out) HC0_0.out A3.out) ?_; intro wz4 hb; replace HOz1 := aQ HOz1 hb; replace BKz1 := aB BKz1 hb; replace BKz2 := aB BKz2 hb; replace HB := aS HB hb; clear hb; have hczz6 := cZ3 BKz2.out; refine Stop.out ?_)
  refine ⟨?_⟩
  revert H; refine eP (fun c31b0 c31b1 H => ?_) (fun c31b0 c31b1 H => ?_)
  ·simp only [Option.some.injEq, Prod.mk.injEq] at H
   obtain ⟨rfl, rfl⟩ := H
   try go_wp2
   replace HOz1 := aM (Kd.R_drew HOz1.out)
   obtain ⟨adz1, ez1, pz1, qz1, hxz1⟩ := at_ic HR0_0 HB a1_1
   cases ez1
   have hcb0_ := cV2 BKz1.out
   have hcb1_ := cV3 BKz2.out
   refine sR0 20 spec_l4Done.tab7 spec_l4Done.bits7 (fun HT_ HW_ hHeld => ?_)
   refine zA 0 ?_
   refine zA 1 ?_
   refine zA 3 ?_
   refine tA 2 ?_
   refine tA 4 ?_
   refine zA 5 ?_
   refine tA 6 ?_
   refine zA 7 ?_
   refine zA 8 ?_
   refine uA 9 ?_
   refine uA 10 ?_
   refine uA 11 ?_
   refine uA 12 ?_
   refine uA 13 ?_
   refine uA 14 ?_
   refine uA 15 ?_
   refine uA 16 ?_
   refine zA 17 ?_
   refine zA 18 ?_
   refine zA 19 ?_
   refine dA ?_
   try go_wp2
   go_ret2
   exact ⟨_, rE, (rX HOz1.out), (hX HB.out)⟩
  revert H; refine iP (fun c42b0 H => ?_) (fun c42b0 H => ?_)
  ·simp only [Option.some.injEq, Prod.mk.injEq] at H
   obtain ⟨rfl, rfl⟩ := H
   try go_wp2
   replace HOz1 := aM (Kd.R_drew HOz1.out)
   obtain ⟨adz1, ez1, pz1, qz1, hxz1⟩ := at_ic HR0_0 HB a1_1
   cases ez1
   have hcb0_ := cV2 BKz1.out
   have hcb1_ := cV3 BKz2.out
   refine sR0 20 spec_l4Done.tab7 spec_l4Done.bits7 (fun HT_ HW_ hHeld => ?_)
   refine zA 0 ?_
   refine zA 1 ?_
   refine zA 3 ?_
   refine tA 2 ?_
   refine tA 4 ?_
   refine zA 5 ?_
   refine tA 6 ?_
   refine zA 7 ?_
   refine zA 8 ?_
   refine zA 9 ?_
   refine zA 10 ?_
   refine zA 11 ?_
   refine uA 12 ?_
   refine uA 13 ?_
   refine uA 14 ?_
   refine uA 15 ?_
   refine zA 16 ?_
   refine zA 17 ?_
   refine zA 18 ?_
   refine zA 19 ?_
   refine dA ?_
   try go_wp2
   go_ret2
   exact ⟨_, rE, (rX HOz1.out), (hX HB.out)⟩
  simp only [Option.some.injEq, Prod.mk.injEq] at H
  obtain ⟨rfl, rfl⟩ := H
  try go_wp2
  replace HOz1 := aM (Kd.R_drew HOz1.out)
  obtain ⟨adz1, ez1, pz1, qz1, hxz1⟩ := at_ic HR0_0 HB a1_1
  cases ez1
  have hcb0_ := cV2 BKz1.out
  have hcb1_ := cV3 BKz2.out
  refine sR0 20 spec_l4Done.tab7 spec_l4Done.bits7 (fun HT_ HW_ hHeld => ?_)
  refine zA 0 ?_
  refine zA 1 ?_
  refine zA 3 ?_
  refine tA 2 ?_
  refine tA 4 ?_
  refine zA 5 ?_
  refine tA 6 ?_
  refine zA 7 ?_
  refine zA 8 ?_
  refine zA 9 ?_
  refine zA 10 ?_
  refine zA 11 ?_
  refine zA 12 ?_
  refine zA 13 ?_
  refine zA 18 ?_
  refine tA 14 ?_
  refine zA 15 ?_
  refine zA 16 ?_
  refine zA 17 ?_
  refine zA 19 ?_
  refine dA ?_
  try go_wp2
  go_ret2
  exact ⟨_, rE, (rX HOz1.out), (hX HB.out)⟩
 revert H; refine eP (fun c63b0 c63b1 H => ?_) (fun c63b0 c63b1 H => ?_)
 ·replace H := ifP H; obtain ⟨c64, H⟩ := H
  have c64b0 := decide_eq_true c64
  clear c64
  replace H := ifQ H; obtain ⟨c65b0, H⟩ := H
  simp only [Option.some.injEq, Prod.mk.injEq] at H
  obtain ⟨rfl, rfl⟩ := H
  try go_wp2_with (refine gB 160 12 Tryz.func160 (spec_KeyOf.calls _ _ _ _ _ _ _ _ (cC HR0_0.out HB.out) HC0_0.out A3.out) ?_; intro wz4 hb; replace HOz1 := aQ HOz1 hb; replace BKz1 := aB BKz1 hb; replace BKz2 := aB BKz2 hb; replace HB := aS HB hb; clear hb; have hczz6 := cZ3 BKz2.out)
  replace HOz1 := aM (Kd.R_drew HOz1.out)
  obtain ⟨adz1, ez1, pz1, qz1, hxz1⟩ := at_ic HR0_0 HB a1_1
  cases ez1
  have hcb0_ := cV2 BKz1.out
  have hcb1_ := cV3 BKz2.out
  refine sR0 10 spec_l4Done.tab9 spec_l4Done.bits9 (fun HT_ HW_ hHeld => ?_)
  refine zA 0 ?_
  refine zA 1 ?_
  refine zA 3 ?_
  refine zA 8 ?_
  refine tA 2 ?_
  refine tA 4 ?_
  refine zA 5 ?_
  refine tA 6 ?_
  refine zA 7 ?_
  refine zA 9 ?_
  refine dA ?_
  try go_wp2
  go_ret2
  exact ⟨_, rE, (rX HOz1.out), (hX HB.out)⟩
 revert H; refine eP (fun c76b0 c76b1 H => ?_) (fun c76b0 c76b1 H => ?_)
 ·replace H := ifP H; obtain ⟨c77, H⟩ := H
  have c77b0 := decide_eq_true c77
  clear c77
  replace H := ifQ H; obtain ⟨c78b0, H⟩ := H
  obtain ⟨y111, hy111⟩ : ∃ y_ : List Int, y_ = (([rd l0_0 a1_1] : List Int)) := ⟨_, rfl⟩
  replace H : (some (y111, ((rd l0_0 a1_1) != 0))) = some (r1, r2) := yH H hy111
  have Ny111 := aM hy111
  clear hy111
  simp only [Option.some.injEq, Prod.mk.injEq] at H
  obtain ⟨rfl, rfl⟩ := H
  try go_wp2_with (refine gB 160 12 Tryz.func160 (spec_KeyOf.calls _ _ _ _ _ _ _ _ (cC HR0_0.out HB.out) HC0_0.out A3.out) ?_; intro wz4 hb; replace HOz1 := aQ HOz1 hb; replace BKz1 := aB BKz1 hb; replace BKz2 := aB BKz2 hb; replace HB := aS HB hb; clear hb; have hczz6 := cZ3 BKz2.out)
  replace HOz1 := aM (Kd.R_drew HOz1.out)
  replace BKz1 := aM (blk_drew BKz1.out)
  replace BKz2 := aM (blk_drew BKz2.out)
  replace HB := aM (below_drew1 HB.out)
  have pz1 : 0 ≤ (a1_1 : Int) := odA
  have qz1 : a1_1 < (l0_0.length : Int) := odA
  obtain ⟨adz1, ez1, hxz1⟩ := Kd.at_int HR0_0.out a1_1 pz1 qz1
  have hwz1 := hxz1
  cases ez1
  replace hxz1 := bc HB.out hxz1
  replace pz1 := eq_true pz1
  replace qz1 := eq_true qz1
  have pz2 : 0 ≤ (a1_1 : Int) := odA
  have qz2 : a1_1 < (l0_0.length : Int) := odA
  obtain ⟨adz2, ez2, hxz2⟩ := Kd.at_int HR0_0.out a1_1 pz2 qz2
  have hwz2 := hxz2
  obtain rfl : adz1 = adz2 := (by injection ez2)
  replace hxz2 := bc HB.out hxz2
  replace pz2 := eq_true pz2
  replace qz2 := eq_true qz2
  refine start_ (n := 16) (S := fun w' => w'.cell? ⟨gbz1, 0, none⟩ = some (.slice (some adz1) l0_0.length c0_0) ∧ w'.cell? ⟨gbz1, 1, none⟩ = some (.int .i64 a0_1) ∧ w'.cell? ⟨gbz2, 0, none⟩ = some (.int .i64 a1_0) ∧ w'.cell? ⟨gbz2, 1, none⟩ = some (.int .i64 a1_1) ∧ w'.cell? ⟨gbz2, 2, none⟩ = some (.int .i64 a1_2) ∧ w'.cell? (adz1.add (a1_1).toNat) = some (.int .i64 (rd l0_0 a1_1)) ∧ w'.cell? (adz1.add (a1_1).toNat) = some (.int .i64 (rd l0_0 a1_1))) (ds := []) (bm 16 0) (by kernel_rfl) rfl (by kernel_rfl) ⟨cK BKz1.out 0, cK BKz1.out 1, cK BKz2.out 0, cK BKz2.out 1, cK BKz2.out 2, (bc HB.out hwz1 :), (bc HB.out hwz2 :)⟩ (fun hHeld => ?_); refine with_tabW spec_l4Done.tab11 spec_l4Done.bits11 (fun HT_ HW_ => ?_)
  generalize wz4.drew = wz5 at HOz1 BKz1 BKz2 HB hxz1 hxz2 hHeld ⊢
  refine pZ 0 61 (bm 16 1) HT_.out ?_
  refine pZ 2 63 (bm 16 5) HT_.out ?_
  refine pZ 7 68 (bm 16 133) HT_.out ?_
  refine pZ 9 70 (bm 16 645) HT_.out ?_
  refine tZ 1 62 (bm 16 647) HT_.out HW_.out hHeld ?_
  refine tZ 3 64 (bm 16 655) HT_.out HW_.out hHeld ?_
  refine pZ 4 65 (bm 16 671) HT_.out ?_
  refine tZ 5 66 (bm 16 703) HT_.out HW_.out hHeld ?_
  refine tZ 8 69 (bm 16 959) HT_.out HW_.out hHeld ?_
  refine tZ 10 71 (bm 16 1983) HT_.out HW_.out hHeld ?_
  refine pZ 11 72 (bm 16 4031) HT_.out ?_
  refine tZ 12 73 (bm 16 8127) HT_.out HW_.out hHeld ?_
  refine pZ 13 74 (bm 16 16319) HT_.out ?_
  refine oZ 6 (some 67) (bm 16 16383) HT_.out (fun K hK => ?_)
  refine Kd.R_lit_step (Kd.int .i64) _ 3 ?hg (N := 67) ?hd (xs := ([rd l0_0 a1_1] : List Int)) (inner := [.int .i64 (rd l0_0 a1_1)]) (ok := fun _ => True) (okp := fun _ => True) ?hr ?hp (fun _ hk => hk) trivial (Below.refl _ _) (Nat.le_refl _) (by simp) ?_; (case hd => rfl); (case hg => rfl); (case hr => first | (go_simp; done) | (go_simp; rfl)); (case hp => exact (Reps.one (show Kd.M (Kd.int .i64) _ _ _ (rd l0_0 a1_1) [.int .i64 (rd l0_0 a1_1)] from rfl) (Reps.none _ _)))
  intro vz2 wz6 hoz2 hb hg_ hnew_
  clear hg_ hnew_
  (first | rw [← Ny111.out] at hoz2 | (simp only [Int.reduceToNat] at hoz2; rw [← Ny111.out] at hoz2))
  have HOz2 := aM (Kd.R_lower (Kd.R_new' hoz2 (Kd.R_lt (rX HOz1.out))) (below_size (hX HB.out)))
  replace HOz1 := aM (Kd.R_elder' (rX HOz1.out) (Kd.R_base hoz2) hb)
  replace BKz1 := aB BKz1 hb
  replace BKz2 := aB BKz2 hb
  replace HB := aS HB hb
  clear hb hoz2
  refine hK.out _ _ ⟨cK BKz1.out 0, cK BKz1.out 1, cK BKz2.out 0, cK BKz2.out 1, cK BKz2.out 2, (bc HB.out hwz1 :), (bc HB.out hwz2 :)⟩ (fun hHeld => ?_)
  clear hK K
  refine nZ 67 ?_
  refine pZ 14 4 (bm 16 32767) HT_.out ?_
  refine pZ 15 5 (bm 16 65535) HT_.out ?_
  refine done_ (done_of HT_.out (by kernel_rfl)) ?_
  try go_wp2
  go_ret2
  exact ⟨_, rE, (rT (h := by exact Kd.R_mono HOz2.out (fun _ hk => trivial))), (hX HB.out)⟩
 revert H; refine eP (fun c91b0 c91b1 H => ?_) (fun c91b0 c91b1 H => ?_)
 ·obtain ⟨y115, hy115⟩ : ∃ y_ : List Int, y_ = (([t106] : List Int)) := ⟨_, rfl⟩
  replace H : (some (y115, decide (t106 ≥ 0))) = some (r1, r2) := yH H hy115
  have Ny115 := aM hy115
  clear hy115
  simp only [Option.some.injEq, Prod.mk.injEq] at H
  obtain ⟨rfl, rfl⟩ := H
  go_wp2_with (first | (refine gB 160 12 Tryz.func160 (spec_KeyOf.calls _ _ _ _ _ _ _ _ (cC HR0_0.out HB.out) HC0_0.out A3.out) ?_; intro wz4 hb; replace HOz1 := aQ HOz1 hb; replace BKz1 := aB BKz1 hb; replace BKz2 := aB BKz2 hb; replace HB := aS HB hb; clear hb; have hczz6 := cZ3 BKz2.out) | ((with_reducible refine gate_dst (N := 78) rfl ?_); refine Kd.R_lit (Kd.int .i64) _ 3 ?hg (N := 78) ?hd (xs := ([t106] : List Int)) (inner := [.int .i64 t106]) (ok := fun _ => True) (okp := fun _ => True) ?hr ?hp (fun _ hk => hk) trivial (Below.refl _ _) (Nat.le_refl _) (by simp) ?_; (case hd => rfl); (case hg => rfl); (case hr => first | (go_simp; done) | (go_simp; rfl)); (case hp => exact (Reps.one (show Kd.M (Kd.int .i64) _ _ _ t106 [.int .i64 t106] from rfl) (Reps.none _ _))); intro vz2 wz5 hoz2 hb hg_ hnew_; clear hg_ hnew_; (first | rw [← Ny115.out] at hoz2 | (simp only [Int.reduceToNat] at hoz2; rw [← Ny115.out] at hoz2)); have HOz2 := aM (Kd.R_lower (Kd.R_new' hoz2 (Kd.R_lt (rX HOz1.out))) (below_size (hX HB.out))); replace HOz1 := aM (Kd.R_elder' (rX HOz1.out) (Kd.R_base hoz2) hb); replace BKz1 := aB BKz1 hb; replace BKz2 := aB BKz2 hb; replace HB := aS HB hb; clear hb hoz2))
  go_ret2
  exact ⟨_, rE, (rT (h := by exact Kd.R_mono HOz2.out (fun _ hk => trivial))), (hX HB.out)⟩
 revert H; refine eP (fun c103b0 c103b1 H => ?_) (fun c103b0 c103b1 H => ?_)
 ·replace H := bE H; obtain ⟨t118, A104, H⟩ := H
  obtain ⟨y119, hy119⟩ : ∃ y_ : List Int, y_ = (([t118] : List Int)) := ⟨_, rfl⟩
  replace H : (some (y119, true)) = some (r1, r2) := yH H hy119
  have Ny119 := aM hy119
  clear hy119
  simp only [Option.some.injEq, Prod.mk.injEq] at H
  obtain ⟨rfl, rfl⟩ := H
  go_wp2_with (first | (refine gB 160 12 Tryz.func160 (spec_KeyOf.calls _ _ _ _ _ _ _ _ (cC HR0_0.out HB.out) HC0_0.out A3.out) ?_; intro wz4 hb; replace HOz1 := aQ HOz1 hb; replace BKz1 := aB BKz1 hb; replace BKz2 := aB BKz2 hb; replace HB := aS HB hb; clear hb; have hczz6 := cZ3 BKz2.out; have hczz9 := cZ2 BKz1.out) | (refine gB 146 86 Tryz.func146 (spec_HowMany.calls _ _ _ _ _ _ _ _ (cC HR0_0.out HB.out) HC0_0.out A104.out) ?_; intro wz5 hb; replace HOz1 := aQ HOz1 hb; replace BKz1 := aB BKz1 hb; replace BKz2 := aB BKz2 hb; replace HB := aS HB hb; clear hb) | ((with_reducible refine gate_dst (N := 87) rfl ?_); refine Kd.R_lit (Kd.int .i64) _ 3 ?hg (N := 87) ?hd (xs := ([t118] : List Int)) (inner := [.int .i64 t118]) (ok := fun _ => True) (okp := fun _ => True) ?hr ?hp (fun _ hk => hk) trivial (Below.refl _ _) (Nat.le_refl _) (by simp) ?_; (case hd => rfl); (case hg => rfl); (case hr => first | (go_simp; done) | (go_simp; rfl)); (case hp => exact (Reps.one (show Kd.M (Kd.int .i64) _ _ _ t118 [.int .i64 t118] from rfl) (Reps.none _ _))); intro vz2 wz6 hoz2 hb hg_ hnew_; clear hg_ hnew_; (first | rw [← Ny119.out] at hoz2 | (simp only [Int.reduceToNat] at hoz2; rw [← Ny119.out] at hoz2)); have HOz2 := aM (Kd.R_lower (Kd.R_new' hoz2 (Kd.R_lt (rX HOz1.out))) (below_size (hX HB.out))); replace HOz1 := aM (Kd.R_elder' (rX HOz1.out) (Kd.R_base hoz2) hb); replace BKz1 := aB BKz1 hb; replace BKz2 := aB BKz2 hb; replace HB := aS HB hb; clear hb hoz2))
  go_ret2
  exact ⟨_, rE, (rT (h := by exact Kd.R_mono HOz2.out (fun _ hk => trivial))), (hX HB.out)⟩
 revert H; refine eP (fun c118b0 c118b1 H => ?_) (fun c118b0 c118b1 H => ?_)
 ·obtain ⟨y122, hy122⟩ : ∃ y_ : List Int, y_ = (([] : List Int)) := ⟨_, rfl⟩
  replace H : (if y122.length + l0_0.length < 17592186044416 then (some ((y122 ++ l0_0), true)) else (none)) = some (r1, r2) := yH H hy122
  have Ny122 := aM hy122
  clear hy122
  replace H := ifP H; obtain ⟨c119, H⟩ := H
  have LMc119 := aM c119
  clear c119
  obtain ⟨y125, hy125⟩ : ∃ y_ : List Int, y_ = (y122 ++ l0_0) := ⟨_, rfl⟩
  replace H : (some (y125, true)) = some (r1, r2) := yH H hy125
  have Ny125 := aM hy125
  clear hy125
  simp only [Option.some.injEq, Prod.mk.injEq] at H
  obtain ⟨rfl, rfl⟩ := H
  go_wp2_with (first | (refine gB 160 12 Tryz.func160 (spec_KeyOf.calls _ _ _ _ _ _ _ _ (cC HR0_0.out HB.out) HC0_0.out A3.out) ?_; intro wz4 hb; replace HOz1 := aQ HOz1 hb; replace BKz1 := aB BKz1 hb; replace BKz2 := aB BKz2 hb; replace HB := aS HB hb; clear hb; have hczz6 := cZ3 BKz2.out) | ((with_reducible refine gate_dst (N := 90) rfl ?_); refine Kd.R_lit (Kd.int .i64) _ 3 ?hg (N := 90) ?hd (xs := ([] : List Int)) (inner := []) (ok := fun _ => True) (okp := fun _ => True) ?hr ?hp (fun _ hk => hk) trivial (Below.refl _ _) (Nat.le_refl _) (by simp) ?_; (case hd => rfl); (case hg => rfl); (case hr => first | (go_simp; done) | (go_simp; rfl)); (case hp => exact (Reps.none _ _)); intro vz2 wz5 hoz2 hb hg_ hnew_; clear hg_ hnew_; (first | rw [← Ny122.out] at hoz2 | (simp only [Int.reduceToNat] at hoz2; rw [← Ny122.out] at hoz2)); have HOz2 := aM (Kd.R_lower (Kd.R_new' hoz2 (Kd.R_lt (rX HOz1.out))) (below_size (hX HB.out))); replace HOz1 := aM (Kd.R_elder' (rX HOz1.out) (Kd.R_base hoz2) hb); replace BKz1 := aB BKz1 hb; replace BKz2 := aB BKz2 hb; replace HB := aS HB hb; clear hb hoz2; have hczz9 := cZ2 BKz1.out) | ((with_reducible refine gate_builtin (b := .append) (xs := #[.tmp 90, .tmp 92]) rfl ?_); at_builtin; refine Kd.R_append_rows (Kd.int .i64) (w0 := w) w.heap.size rfl (.tmp 90) (.tmp 92) 28 3 (.int .i64 0) 8 rfl Tryz.underlying28 info3 rfl (by decide) (by omega) vz2 y122 l0_0 _ _ _ (fun k_ => some k_ ≠ (vz1 : Value).ownBlock) (fun _ => False) rfl rfl ?aO ?aR (fun _ _ h => h) (fun _ h => h.elim) ?aF ?aB ?aS ?aL ?_; (case aR => repeat (first | exact (Kd.C_below HR0_0.out HB.out) | (with_reducible refine Kd.C_alloc ?_ _) | (with_reducible refine Kd.C_drewN ?_ _) | (with_reducible refine Kd.C_drew ?_))); (case aB => exact (hX HB.out)); (case aF => exact (fun k_ hk => Kd.fresh' (Kd.R_lt (rX HOz1.out)) k_ hk)); (case aO => exact (rT (h := by exact Kd.R_mono HOz2.out (fun _ hk => hk.2)))); (case aS => exact (below_size (hX HB.out))); (case aL => have := LMc119.out; omega); intro vz3 wz6 ho hb hg hat; rw [← Ny125.out] at ho; have HOz3 := aM (ho); replace BKz1 := aM (blk_grown (g := gbz1) (o := .cells #[.slice A0_0 l0_0.length c0_0, .int .i64 a0_1] 41 (0, 0)) (bX BKz1.out) hg (Kd.R_ne HOz2.out BKz1.out (by decide))); replace BKz2 := aM (blk_grown (g := gbz2) (o := .cells #[.int .i64 a1_0, .int .i64 a1_1, .int .i64 a1_2] 69 (0, 0)) (bX BKz2.out) hg (Kd.R_ne HOz2.out BKz2.out (by decide))); replace HOz1 := aM (Kd.R_after (ok := (fun _ => True)) (rX HOz1.out) hg hat); replace HB := aM (hb); clear HOz2; clear ho hb hg hat))
  go_ret2
  exact ⟨_, rE, (rT (h := by exact Kd.R_mono HOz3.out (fun _ hk => trivial))), (hX HB.out)⟩
 revert H; refine eP (fun c133b0 c133b1 H => ?_) (fun c133b0 c133b1 H => ?_)
 ·simp only [Option.some.injEq, Prod.mk.injEq] at H
  obtain ⟨rfl, rfl⟩ := H
  try go_wp2_with (refine gB 160 12 Tryz.func160 (spec_KeyOf.calls _ _ _ _ _ _ _ _ (cC HR0_0.out HB.out) HC0_0.out A3.out) ?_; intro wz4 hb; replace HOz1 := aQ HOz1 hb; replace BKz1 := aB BKz1 hb; replace BKz2 := aB BKz2 hb; replace HB := aS HB hb; clear hb; have hczz6 := cZ3 BKz2.out)
  replace HOz1 := aM (Kd.R_drew HOz1.out)
  replace BKz1 := aM (blk_drew BKz1.out)
  replace BKz2 := aM (blk_drew BKz2.out)
  replace HB := aM (below_drew1 HB.out)
  refine start_ (n := 6) (S := fun w' => w'.cell? ⟨gbz1, 0, none⟩ = some (.slice A0_0 l0_0.length c0_0) ∧ w'.cell? ⟨gbz1, 1, none⟩ = some (.int .i64 a0_1)) (ds := []) (bm 6 0) (by kernel_rfl) rfl (by kernel_rfl) ⟨cK BKz1.out 0, cK BKz1.out 1⟩ (fun hHeld => ?_)
  generalize wz4.drew = wz5 at HOz1 BKz1 BKz2 HB hHeld ⊢
  refine pK 0 96 (bm 6 1) ?_
  refine pK 1 97 (bm 6 3) ?_
  refine pK 4 4 (bm 6 19) ?_
  refine tK 2 98 (bm 6 23) hHeld ?_
  refine pK 3 99 (bm 6 31) ?_
  refine pK 5 5 (bm 6 63) ?_
  refine done_ (by kernel_rfl) ?_
  try go_wp2
  go_ret2
  exact ⟨_, rE, (rX HOz1.out), (hX HB.out)⟩
 revert H; refine eP (fun c144b0 c144b1 H => ?_) (fun c144b0 c144b1 H => ?_)
 ·replace H := bE H; obtain ⟨t128, A145, H⟩ := H
  simp only [Option.some.injEq, Prod.mk.injEq] at H
  obtain ⟨rfl, rfl⟩ := H
  go_wp2_with (first | (refine gB 160 12 Tryz.func160 (spec_KeyOf.calls _ _ _ _ _ _ _ _ (cC HR0_0.out HB.out) HC0_0.out A3.out) ?_; intro wz4 hb; replace HOz1 := aQ HOz1 hb; replace BKz1 := aB BKz1 hb; replace BKz2 := aB BKz2 hb; replace HB := aS HB hb; clear hb; have hczz6 := cZ3 BKz2.out; have hczz9 := cZ2 BKz1.out) | (refine gD 43 105 Tryz.func43 (spec_l1In.calls _ _ _ _ _ A145.out) ?_; intro nd))
  go_ret2
  exact ⟨_, rE, (rX HOz1.out), (hX HB.out)⟩
 obtain ⟨y129, hy129⟩ : ∃ y_ : List Int, y_ = (([t106] : List Int)) := ⟨_, rfl⟩
 replace H : (if a0_1 = 5 then (some (y129, decide (t106 ≥ 0))) else (some (y129, false))) = some (r1, r2) := yH H hy129
 have Ny129 := aM hy129
 clear hy129
 go_wp2_with (first | (refine gB 160 12 Tryz.func160 (spec_KeyOf.calls _ _ _ _ _ _ _ _ (cC HR0_0.out HB.out) HC0_0.out A3.out) ?_; intro wz4 hb; replace HOz1 := aQ HOz1 hb; replace BKz1 := aB BKz1 hb; replace BKz2 := aB BKz2 hb; replace HB := aS HB hb; clear hb; have hczz6 := cZ3 BKz2.out) | ((with_reducible refine gate_dst (N := 107) rfl ?_); refine Kd.R_lit (Kd.int .i64) _ 3 ?hg (N := 107) ?hd (xs := ([t106] : List Int)) (inner := [.int .i64 t106]) (ok := fun _ => True) (okp := fun _ => True) ?hr ?hp (fun _ hk => hk) trivial (Below.refl _ _) (Nat.le_refl _) (by simp) ?_; (case hd => rfl); (case hg => rfl); (case hr => first | (go_simp; done) | (go_simp; rfl)); (case hp => exact (Reps.one (show Kd.M (Kd.int .i64) _ _ _ t106 [.int .i64 t106] from rfl) (Reps.none _ _))); intro vz2 wz5 hoz2 hb hg_ hnew_; clear hg_ hnew_; (first | rw [← Ny129.out] at hoz2 | (simp only [Int.reduceToNat] at hoz2; rw [← Ny129.out] at hoz2)); have HOz2 := aM (Kd.R_lower (Kd.R_new' hoz2 (Kd.R_lt (rX HOz1.out))) (below_size (hX HB.out))); replace HOz1 := aM (Kd.R_elder' (rX HOz1.out) (Kd.R_base hoz2) hb); replace BKz1 := aB BKz1 hb; replace BKz2 := aB BKz2 hb; replace HB := aS HB hb; clear hb hoz2; have hczz9 := cZ2 BKz1.out; refine Stop.out ?_))
 refine ⟨?_⟩
 revert H; refine eN (fun c156b0 c156b1 H => ?_) (fun c156b0 c156b1 H => ?_)
 ·simp only [Option.some.injEq, Prod.mk.injEq] at H
  obtain ⟨rfl, rfl⟩ := H
  go_wp2
  go_ret2
  exact ⟨_, rE, (rT (h := by exact Kd.R_mono HOz2.out (fun _ hk => trivial))), (hX HB.out)⟩
 simp only [Option.some.injEq, Prod.mk.injEq] at H
 obtain ⟨rfl, rfl⟩ := H
 go_wp2
 go_ret2
 exact ⟨_, rE, (rT (h := by exact Kd.R_mono HOz2.out (fun _ hk => trivial))), (hX HB.out)⟩
mutual
def spec_l4Ints.l0 : Nat → List Int → List Int → Int → Option (Bool)
 | 0, _, _, _ => none
 | k + 1, x0, x1, x5 => if x5 < (x0.length : Int) then (spec_l4Ints.j1 k x0 x1 x5 (decide (x5 < (x1.length : Int)))) else (spec_l4Ints.j1 k x0 x1 x5 false)
def spec_l4Ints.j1 : Nat → List Int → List Int → Int → Bool → Option (Bool)
 | 0, _, _, _, _ => none
 | k + 1, x0, x1, x5, x15 => if x15 = true then (if 0 ≤ x5 then (if x5 < (x0.length : Int) then (if x5 < (x1.length : Int) then (if (rd x0 x5) = (rd x1 x5) then (spec_l4Ints.l0 k x0 x1 (wrap64 (x5 + 1))) else (some false)) else (none)) else (none)) else (none)) else (some ((x0.length : Int) == (x1.length : Int)))
end
def spec_l4Ints.f (k : Nat) (l0 : List Int) (l1 : List Int) : Option (Bool) := spec_l4Ints.l0 k l0 l1 0
theorem spec_l4Ints.calls (k : Nat) (A0 : Option Addr) (c0 : Nat) (l0 : List Int) (A1 : Option Addr) (c1 : Nat) (l1 : List Int) (r : Bool) (w : World) (hr0 : Kd.C (Kd.int .i64) w A0 l0.length l0) (hc0 : l0.length ≤ c0) (hr1 : Kd.C (Kd.int .i64) w A1 l1.length l1) (hc1 : l1.length ≤ c1) (h : spec_l4Ints.f k l0 l1 = some r) :
  Calls Tryz.prog 84 #[.slice A0 l0.length c0, .slice A1 l1.length c1] w fun e w' => e = .returned (.bool r) ∧ Drawn0 w w' := by
 have HR0 := aM hr0
 have HC0 := aM hc0
 clear hr0 hc0
 have HR1 := aM hr1
 have HC1 := aM hc1
 clear hr1 hc1
 have H := h
 unfold spec_l4Ints.f at H
 clear h
 have H' := aM H
 clear H
 go_enter Tryz.func84, Tryz.ntmps84
 go_wp2
 repeat (go_quiet (fail); try go_wp2)
 go_loopg [5] k (fun kq v5 w' => ∃ (x5_1 : Int), v5 = .int .i64 x5_1 ∧ Aside0 (spec_l4Ints.l0 kq l0 l1 x5_1 = some r) ∧ Aside0 (kq ≤ k) ∧ Drawn0 w w')
 case atStart => exact ⟨(0), rS, H', ⟨Nat.le_refl _⟩, dX⟩
 case round =>
  clear H'
  obtain ⟨x5_1, rfl, HA, HKy1, ⟨my1, rfl⟩⟩ := hrel
  cases gk with
  | zero => exact absurd HA.out (by simp [spec_l4Ints.l0])
  | succ k1 =>
   have H := HA.out
   clear HA
   simp only [spec_l4Ints.l0] at H
   have HC3 := aM H
   clear H
   go_upto_region 2 with (fail)
   repeat (go_quiet (fail); go_upto_region 2 with (fail))
   go_cut [15] (fun vx1 wc => ∃ (kq : Nat) (x15_2 : Bool), vx1 = .bool x15_2 ∧ Aside0 (spec_l4Ints.j1 kq l0 l1 x5_1 x15_2 = some r) ∧ Aside0 (kq ≤ k1) ∧ Drawn0 w wc)
   case first =>
    have H := HC3.out
    clear HC3
    revert H; refine iN (fun c4b0 H => ?_) (fun c4b0 H => ?_)
    ·(first | rw [c4b0] | (simp only [i64_w, i32_w]; rw [c4b0]) | skip)
     have H' := aM H
     clear H
     go_wp2
     repeat (go_quiet (fail); try go_wp2)
     go_meet
     case rel => exact ⟨_, (false), rS, H', ⟨by have := HKy1.out; first | omega | exact Nat.le_refl _⟩, dX⟩
    (first | rw [c4b0] | (simp only [i64_w, i32_w]; rw [c4b0]) | skip)
    have H' := aM H
    clear H
    go_wp2
    repeat (go_quiet (fail); try go_wp2)
    go_meet
    case rel => exact ⟨_, (decide (x5_1 < (l1.length : Int))), rS, H', ⟨by have := HKy1.out; first | omega | exact Nat.le_refl _⟩, dX⟩
   case rest =>
    clear HC3
    obtain ⟨kq, x15_2, rfl, HA, HJw1, ⟨mcw1, rfl⟩⟩ := hcut
    cases kq with
    | zero => exact absurd HA.out (by simp [spec_l4Ints.j1])
    | succ kj2 =>
     have H := HA.out
     clear HA
     simp only [spec_l4Ints.j1] at H
     cases x15_2
     case false =>
      rw [if_neg nft] at H
      obtain rfl := sI H
      go_wp2
      repeat (go_quiet (fail); try go_wp2)
      go_ret
      exact ⟨by first | rfl | (simp; done) | (simp [*]; done), dX⟩
     rw [if_pos rfl] at H
     replace H := ifQ H; obtain ⟨c6b0, H⟩ := H
     replace H := ifQ H; obtain ⟨c7b0, H⟩ := H
     replace H := ifQ H; obtain ⟨c8b0, H⟩ := H
     revert H; refine eN (fun c9b0 c9b1 H => ?_) (fun c9b0 c9b1 H => ?_)
     ·obtain rfl := sI H
      have pv1 : 0 ≤ (x5_1 : Int) := odA
      have qv1 : x5_1 < (l0.length : Int) := odA
      obtain ⟨adv1, ev1, hxv1⟩ := Kd.at_int HR0.out x5_1 pv1 qv1
      cases ev1
      replace pv1 := eq_true pv1
      replace qv1 := eq_true qv1
      have pv2 : 0 ≤ (x5_1 : Int) := odA
      have qv2 : x5_1 < (l1.length : Int) := odA
      obtain ⟨adv2, ev2, hxv2⟩ := Kd.at_int HR1.out x5_1 pv2 qv2
      cases ev2
      replace pv2 := eq_true pv2
      replace qv2 := eq_true qv2
      go_wp2
      repeat (go_quiet (fail); try go_wp2)
      go_ret
      exact ⟨by first | rfl | (simp; done) | (simp [*]; done), dX⟩
     have H' := aM H
     clear H
     have pv1 : 0 ≤ (x5_1 : Int) := odA
     have qv1 : x5_1 < (l0.length : Int) := odA
     obtain ⟨adv1, ev1, hxv1⟩ := Kd.at_int HR0.out x5_1 pv1 qv1
     cases ev1
     replace pv1 := eq_true pv1
     replace qv1 := eq_true qv1
     have pv2 : 0 ≤ (x5_1 : Int) := odA
     have qv2 : x5_1 < (l1.length : Int) := odA
     obtain ⟨adv2, ev2, hxv2⟩ := Kd.at_int HR1.out x5_1 pv2 qv2
     cases ev2
     replace pv2 := eq_true pv2
     replace qv2 := eq_true qv2
     go_wp2
     repeat (go_quiet (fail); try go_wp2)
     go_roundg kj2
     case measure => have := HKy1.out; have := HJw1.out; omega
     case rel => exact ⟨(wrap64 (x5_1 + 1)), rS, H', ⟨by have := HKy1.out; have := HJw1.out; omega⟩, dX⟩
def spec_Allowed.j0 : Nat → Bool → List Int → Int → Int → Int → Int → Int → List Int → Option (Bool)
 | 0, _, _, _, _, _, _, _, _ => none
 | k + 1, x16, x102000, x102001, x103000, x103001, x103002, x104000, x104001 => if x16 = true then (some false) else (if x104000 = 0 then ((spec_l4Done.f k x102000 x102001 x103000 x103001 x103002).bind fun bt106 => (if bt106.2 = true then ((spec_l4Ints.f k bt106.1 x104001).bind fun t110 => (some t110)) else (some false))) else (if (x104001.length : Int) = 0 then ((spec_l4Fails.f k x102000 x102001 x103000 x103001 x103002 x104000).bind fun t111 => (some t111)) else (some false)))
def spec_Allowed.f (k : Nat) (l0_0 : List Int) (a0_1 : Int) (a1_0 : Int) (a1_1 : Int) (a1_2 : Int) (a2_0 : Int) (l2_1 : List Int) : Option (Bool) := (spec_RowsOk.f k l0_0 a0_1).bind fun t104 => (if t104 = true then ((spec_OpOk.f k a1_0 a1_1 a1_2).bind fun t105 => (spec_Allowed.j0 k (!t105) l0_0 a0_1 a1_0 a1_1 a1_2 a2_0 l2_1)) else (spec_Allowed.j0 k true l0_0 a0_1 a1_0 a1_1 a1_2 a2_0 l2_1))
theorem spec_Allowed.calls (k : Nat) (A0_0 : Option Addr) (c0_0 : Nat) (l0_0 : List Int) (a0_1 : Int) (a1_0 : Int) (a1_1 : Int) (a1_2 : Int) (a2_0 : Int) (A2_1 : Option Addr) (c2_1 : Nat) (l2_1 : List Int) (r : Bool) (w : World) (hr0_0 : Kd.C (Kd.int .i64) w A0_0 l0_0.length l0_0) (hc0_0 : l0_0.length ≤ c0_0) (hr2_1 : Kd.C (Kd.int .i64) w A2_1 l2_1.length l2_1) (hc2_1 : l2_1.length ≤ c2_1) (h : spec_Allowed.f k l0_0 a0_1 a1_0 a1_1 a1_2 a2_0 l2_1 = some r) :
  Calls Tryz.prog 80 #[.agg #[.slice A0_0 l0_0.length c0_0, .int .i64 a0_1], .agg #[.int .i64 a1_0, .int .i64 a1_1, .int .i64 a1_2], .agg #[.int .i64 a2_0, .slice A2_1 l2_1.length c2_1]] w fun e w' => e = .returned (.bool r) ∧ Below w.heap.size w w' := by
 have hu41 := Tryz.underlying41
 have hu69 := Tryz.underlying69
 have hu71 := Tryz.underlying71
 have HR0_0 := aM hr0_0
 have HC0_0 := aM hc0_0
 clear hr0_0 hc0_0
 have HR2_1 := aM hr2_1
 have HC2_1 := aM hc2_1
 clear hr2_1 hc2_1
 have HB := aM (Below.refl w.heap.size w)
 have H := h
 unfold spec_Allowed.f at H
 clear h
 have HC4 := aM H
 clear H
 go_enter Tryz.func80, Tryz.ntmps80
 go_upto_region 1 with (first | ((with_reducible refine gate_dst (N := 3) rfl ?_); refine boxE 3 #[.slice A0_0 l0_0.length c0_0, .int .i64 a0_1] 41 ?_; intro gbz1 hg wz1 hbox hb; have BKz1 := aM (hbox); have GWz1 := aG hg HB; have GEz1 := aG hg HB; replace HB := aS HB hb; clear hb hbox hg) | ((with_reducible refine gate_dst (N := 4) rfl ?_); refine boxE 4 #[.int .i64 a1_0, .int .i64 a1_1, .int .i64 a1_2] 69 ?_; intro gbz2 hg wz2 hbox hb; have BKz2 := aM (hbox); have GWz2 := aG hg HB; have GEz2 := aG hg HB; have NBz1 := aL hg BKz1; have NBz2 := aR hg BKz1; replace BKz1 := aB BKz1 hb; replace HB := aS HB hb; clear hb hbox hg) | ((with_reducible refine gate_dst (N := 5) rfl ?_); refine boxE 5 #[.int .i64 a2_0, .slice A2_1 l2_1.length c2_1] 71 ?_; intro gbz3 hg wz3 hbox hb; have BKz3 := aM (hbox); have GWz3 := aG hg HB; have GEz3 := aG hg HB; have NBz3 := aL hg BKz1; have NBz4 := aR hg BKz1; have NBz5 := aL hg BKz2; have NBz6 := aR hg BKz2; replace BKz1 := aB BKz1 hb; replace BKz2 := aB BKz2 hb; replace HB := aS HB hb; clear hb hbox hg))
 (try simp only [Act.put, List.setIfInBounds_toArray, List.set_cons_zero, List.set_cons_succ])
 go_cut [16] (fun vz1 wc => ∃ (kq : Nat) (x16_3 : Bool), vz1 = .bool x16_3 ∧ Aside0 (spec_Allowed.j0 kq x16_3 l0_0 a0_1 a1_0 a1_1 a1_2 a2_0 l2_1 = some r) ∧ Aside0 (kq ≤ k) ∧ Aside0 (wc.heap[gbz1]? = some (.cells #[(.slice A0_0 l0_0.length c0_0), .int .i64 a0_1] 41 (0, 0))) ∧ Aside0 (wc.heap[gbz2]? = some (.cells #[.int .i64 a1_0, .int .i64 a1_1, .int .i64 a1_2] 69 (0, 0))) ∧ Aside0 (wc.heap[gbz3]? = some (.cells #[.int .i64 a2_0, (.slice A2_1 l2_1.length c2_1)] 71 (0, 0))) ∧ Aside0 (Below w.heap.size w wc))
 case first =>
  have H := HC4.out
  clear HC4
  replace H := bE H; obtain ⟨t104, A8, H⟩ := H
  cases t104
  case false =>
   rw [if_neg nft] at H
   have H' := aM H
   clear H
   have hnby1 := NBz1.out
   have hncy1 := NBz2.out
   have hnby2 := NBz3.out
   have hncy2 := NBz4.out
   have hczy1 := cZ2 BKz1.out
   go_wp2_with (refine gB 93 10 Tryz.func93 (spec_RowsOk.calls _ _ _ _ _ _ _ (cC HR0_0.out HB.out) HC0_0.out A8.out) ?_; intro wy1 hb; replace BKz1 := aB BKz1 hb; replace BKz2 := aB BKz2 hb; replace BKz3 := aB BKz3 hb; replace HB := aS HB hb; clear hb)
   go_meet
   case rel => exact ⟨_, (true), rS, H', ⟨by first | omega | exact Nat.le_refl _⟩, ⟨(bX BKz1.out)⟩, ⟨(bX BKz2.out)⟩, ⟨(bX BKz3.out)⟩, ⟨(hX HB.out)⟩⟩
  rw [if_pos rfl] at H
  replace H := bE H; obtain ⟨t105, A10, H⟩ := H
  have H' := aM H
  clear H
  have hnby1 := NBz1.out
  have hncy1 := NBz2.out
  have hnby2 := NBz3.out
  have hncy2 := NBz4.out
  have hczy1 := cZ2 BKz1.out
  go_wp2_with (first | (refine gB 93 10 Tryz.func93 (spec_RowsOk.calls _ _ _ _ _ _ _ (cC HR0_0.out HB.out) HC0_0.out A8.out) ?_; intro wy1 hb; replace BKz1 := aB BKz1 hb; replace BKz2 := aB BKz2 hb; replace BKz3 := aB BKz3 hb; replace HB := aS HB hb; clear hb; have hnby3 := NBz5.out; have hncy3 := NBz6.out; have hczy3 := cZ3 BKz2.out) | (go_at_call 138; (with_reducible refine (spec_OpOk.calls _ _ _ _ _ _ A10.out).mono ?_); rintro e wy2 ⟨rfl, hb⟩; replace BKz1 := aB BKz1 hb; replace BKz2 := aB BKz2 hb; replace BKz3 := aB BKz3 hb; replace HB := aS HB hb; clear hb))
  go_meet
  case rel => exact ⟨_, (!t105), rS, H', ⟨by first | omega | exact Nat.le_refl _⟩, ⟨(bX BKz1.out)⟩, ⟨(bX BKz2.out)⟩, ⟨(bX BKz3.out)⟩, ⟨(hX HB.out)⟩⟩
 case rest =>
  clear HC4
  obtain ⟨kq, x16_3, rfl, HA, HJy1, BKz1, BKz2, BKz3, HB⟩ := hcut
  cases kq with
  | zero => exact absurd HA.out (by simp [spec_Allowed.j0])
  | succ kj3 =>
   have H := HA.out
   clear HA
   simp only [spec_Allowed.j0] at H
   cases x16_3
   case true =>
    rw [if_pos rfl] at H
    exact fR
   rw [if_neg nft] at H
   revert H; refine eN (fun c23b0 c23b1 H => ?_) (fun c23b0 c23b1 H => ?_)
   ·by_cases c43 : (l2_1.length : Int) = 0
    case neg =>
     rw [if_neg c43] at H
     obtain ⟨c43b0, c43b1⟩ := eqF c43
     have c43b2 : ¬ (l2_1 = []) := fun h_ => c43 (by rw [h_]; rfl)
     obtain rfl := sI H
     have hnbx1 := NBz4.out
     have hncx1 := NBz3.out
     have hnbx2 := NBz6.out
     have hncx2 := NBz5.out
     have hczx1 := cZ2 BKz3.out
     exact fS
    rw [if_pos c43] at H
    obtain ⟨c43b0, c43b1⟩ := eqT c43
    clear c43
    replace H := bE H; obtain ⟨t111, A44, H⟩ := H
    obtain rfl := sI H
    have hnbx1 := NBz4.out
    have hncx1 := NBz3.out
    have hnbx2 := NBz6.out
    have hncx2 := NBz5.out
    have hczx1 := cZ2 BKz3.out
    have hnbx3 := NBz1.out
    have hncx3 := NBz2.out
    have hczx3 := cZ2 BKz1.out
    have hczx5 := cZ3 BKz2.out
    go_wp2_with (go_at_call 139; (with_reducible refine (spec_l4Fails.calls _ _ _ _ _ _ _ _ _ _ _ (cC HR0_0.out HB.out) HC0_0.out A44.out).mono ?_); rintro e wx1 ⟨rfl, hb⟩; replace BKz1 := aB BKz1 hb; replace BKz2 := aB BKz2 hb; replace BKz3 := aB BKz3 hb; replace HB := aS HB hb; clear hb)
    go_ret
    exact ⟨rE, (hX HB.out)⟩
   replace H := bE H; obtain ⟨⟨t106, t109⟩, A24, H⟩ := H
   try dsimp only at H
   cases t109
   case false =>
    rw [if_neg nft] at H
    obtain rfl := sI H
    have hnbx1 := NBz4.out
    have hncx1 := NBz3.out
    have hnbx2 := NBz6.out
    have hncx2 := NBz5.out
    have hczx1 := cZ2 BKz3.out
    have hnbx3 := NBz1.out
    have hncx3 := NBz2.out
    have hczx3 := cZ2 BKz1.out
    have hczx5 := cZ3 BKz2.out
    go_wp2_with (refine goesM 140 34 Tryz.func140 #[.agg #[.slice A0_0 l0_0.length c0_0, .int .i64 a0_1], .agg #[.int .i64 a1_0, .int .i64 a1_1, .int .i64 a1_2]] ?_; refine (spec_l4Done.calls _ _ _ _ _ _ _ _ _ _ _ (cC HR0_0.out HB.out) HC0_0.out A24.out).mono ?_; rintro e wx1 ⟨vx1, rfl, hox1, hb⟩; refine ⟨_, rfl, ?_⟩; have HOx1 := aM (Kd.R_lower hox1 (below_size (hX HB.out))); replace BKz1 := aB BKz1 hb; replace BKz2 := aB BKz2 hb; replace BKz3 := aB BKz3 hb; replace HB := aS HB hb; clear hb hox1)
    go_ret
    exact ⟨rE, (hX HB.out)⟩
   rw [if_pos rfl] at H
   replace H := bE H; obtain ⟨t110, A26, H⟩ := H
   obtain rfl := sI H
   have hnbx1 := NBz4.out
   have hncx1 := NBz3.out
   have hnbx2 := NBz6.out
   have hncx2 := NBz5.out
   have hczx1 := cZ2 BKz3.out
   have hnbx3 := NBz1.out
   have hncx3 := NBz2.out
   have hczx3 := cZ2 BKz1.out
   have hczx5 := cZ3 BKz2.out
   go_wp2_with (first | (refine goesM 140 34 Tryz.func140 #[.agg #[.slice A0_0 l0_0.length c0_0, .int .i64 a0_1], .agg #[.int .i64 a1_0, .int .i64 a1_1, .int .i64 a1_2]] ?_; refine (spec_l4Done.calls _ _ _ _ _ _ _ _ _ _ _ (cC HR0_0.out HB.out) HC0_0.out A24.out).mono ?_; rintro e wx1 ⟨vx1, rfl, hox1, hb⟩; refine ⟨_, rfl, ?_⟩; have HOx1 := aM (Kd.R_lower hox1 (below_size (hX HB.out))); replace BKz1 := aB BKz1 hb; replace BKz2 := aB BKz2 hb; replace BKz3 := aB BKz3 hb; replace HB := aS HB hb; clear hb hox1; have hczx8 := cZ2 BKz3.out; obtain ⟨Aox1, cox1, eox1⟩ := Kd.R_slice HOx1.out; subst eox1) | (go_at_call 84; (with_reducible refine (spec_l4Ints.calls _ _ _ _ _ _ _ _ _ (cX (Kd.R_reads' HOx1.out).2.2) ((Kd.R_reads' HOx1.out).2.1) (cC HR2_1.out HB.out) HC2_1.out A26.out).mono ?_); rintro e w' ⟨rfl, ⟨nd, rfl⟩⟩))
   go_ret
   exact ⟨rE, (hX HB.out)⟩
end Go.Proofs.YtmljebgideecjaaGreat.P2
