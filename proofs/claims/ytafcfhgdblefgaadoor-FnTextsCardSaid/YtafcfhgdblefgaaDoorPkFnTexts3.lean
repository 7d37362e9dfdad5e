/- A part of the proof of the law FnTexts: texts of this seat, merged (words, printed functions of the program, plain lemmas). Conditions: none of its own. -/
import Derived.Test.YtafcfhgdblefgaaDoorPkFnTexts2
set_option linter.unusedSimpArgs false
set_option linter.unusedVariables false
namespace Go.Proofs.YtafcfhgdblefgaaDoor.P
open Go.Proofs.YtafcfhgdblefgaaDoorZ Go.RowKit Go.Proofs.YtafcfhgdblefgaaDoorW.PrintWords Go.Proofs.YtafcfhgdblefgaaDoorW.PrintLast Go.Proofs.YtafcfhgdblefgaaDoorW.PrintMore
attribute [local go_sem] max2_int min2_int max_two min_two max_three min_three max_four min_four   -- for this text's walks alone
def spec_l4Done.f (k : Nat) (l0_0 : List Int) (a0_1 : Int) (a1_0 : Int) (a1_1 : Int) (a1_2 : Int) : Option (List Int × Bool) := (some (([] : List Int) : List Int)).bind fun y103 => ((spec_KeyOf.f k l0_0 a0_1 a1_2).bind fun t106 => (if a1_0 = 1 then (if 0 ≤ a1_1 then (if a1_1 < (l0_0.length : Int) then (if (rd l0_0 a1_1) = 0 then (some (y103, decide (t106 < 0))) else (some (y103, false))) else (none)) else (none)) else (if a1_0 = 2 then (if 0 ≤ a1_1 then (if a1_1 < (l0_0.length : Int) then (if (rd l0_0 a1_1) = 0 then (some (y103, false)) else (if t106 < 0 then (some (y103, true)) else (some (y103, (t106 == a1_1))))) else (none)) else (none)) else (if a1_0 = 3 then (if 0 ≤ a1_1 then (if a1_1 < (l0_0.length : Int) then (some (y103, ((rd l0_0 a1_1) != 0))) else (none)) else (none)) else (if a1_0 = 4 then (if 0 ≤ a1_1 then (if a1_1 < (l0_0.length : Int) then (some ((([rd l0_0 a1_1] : List Int)), ((rd l0_0 a1_1) != 0))) else (none)) else (none)) else (if a1_0 = 5 then (some ((([t106] : List Int)), decide (t106 ≥ 0))) else (if a1_0 = 6 then ((spec_HowMany.f k l0_0 a0_1 a1_1).bind fun t118 => (some ((([t118] : List Int)), true))) else (if a1_0 = 7 then ((some (([] : List Int) : List Int)).bind fun y122 => (if y122.length + l0_0.length < 17592186044416 then (some ((y122 ++ l0_0), true)) else (none))) else (if a1_0 = 8 then (some (y103, (a0_1 == 0))) else (if a1_0 = 9 then ((spec_l1In.f a0_1 1 4).bind fun t128 => (some (y103, t128))) else ((some (([t106] : List Int) : List Int)).bind fun y129 => (if a0_1 = 5 then (some (y129, decide (t106 ≥ 0))) else (some (y129, false))))))))))))))
def spec_l4Done.T7 : Bool × List (List Nat × List Nat) := (true, [([], []), ([], []), ([1], [1]), ([], []), ([3], [3]), ([2, 4], [2, 4]), ([5], [5]), ([6], [6]), ([7], [7]), ([8], [8]), ([9, 8], [8, 9]), ([10, 8, 8], [8, 10]), ([11], [11]), ([11], [11]), ([13, 11], [11, 13]), ([12, 14, 11], [11, 12, 14]), ([11, 15, 8], [8, 11, 15]), ([8, 16], [8, 16]), ([0, 11, 0], [0]), ([17, 18, 0, 1, 2, 3, 4, 5, 6, 7, 8, 9, 10, 11, 12, 13, 14, 15, 16, 17, 18], [17])])
def spec_l4Done.B7 : List Nat := [0, 0, 2, 0, 8, 30, 62, 126, 254, 510, 1022, 2046, 4094, 4094, 12286, 32766, 65534, 131070, 4095, 524287]
theorem spec_l4Done.tab7 : rtab .any (opsOf Tryd.f64 7) = spec_l4Done.T7 := by kernel_rfl
theorem spec_l4Done.bits7 : waitsOk spec_l4Done.T7.2 spec_l4Done.B7 = true := by kernel_rfl
def spec_l4Done.T9 : Bool × List (List Nat × List Nat) := (true, [([], []), ([], []), ([1], [1]), ([], []), ([3], [3]), ([2, 4], [2, 4]), ([5], [5]), ([6], [6]), ([0, 0], [0]), ([7, 8, 0, 1, 2, 3, 4, 5, 6, 7, 8], [7])])
def spec_l4Done.B9 : List Nat := [0, 0, 2, 0, 8, 30, 62, 126, 1, 511]
theorem spec_l4Done.tab9 : rtab .any (opsOf Tryd.f64 9) = spec_l4Done.T9 := by kernel_rfl
theorem spec_l4Done.bits9 : waitsOk spec_l4Done.T9.2 spec_l4Done.B9 = true := by kernel_rfl
def spec_l4Done.T11 : Bool × List (List Nat × List Nat) := (true, [([], []), ([0], [0]), ([], []), ([2], [2]), ([1, 3], [1, 3]), ([4], [4]), ([5], [5]), ([], []), ([7], [7]), ([], []), ([9], [9]), ([8, 10], [8, 10]), ([11], [11]), ([12], [12]), ([6, 0, 1, 2, 3, 4, 5, 6], [6]), ([13, 14, 0, 1, 2, 3, 4, 5, 6, 7, 8, 9, 10, 11, 12, 13, 14], [13])])
def spec_l4Done.B11 : List Nat := [0, 1, 0, 4, 15, 31, 63, 0, 128, 0, 512, 1920, 3968, 8064, 127, 32767]
theorem spec_l4Done.tab11 : rtab .any (opsOf Tryd.f64 11) = spec_l4Done.T11 := by kernel_rfl
theorem spec_l4Done.bits11 : waitsOk spec_l4Done.T11.2 spec_l4Done.B11 = true := by kernel_rfl
set_option maxHeartbeats 8000000 in
set_option maxRecDepth 100000 in
theorem spec_l4Done.calls (k : Nat) (A0_0 : Option Addr) (c0_0 : Nat) (l0_0 : List Int) (a0_1 : Int) (a1_0 : Int) (a1_1 : Int) (a1_2 : Int) (r1 : List Int) (r2 : Bool) (w : World) (hr0_0 : Kd.C (Kd.int .i64) w A0_0 l0_0.length l0_0) (hc0_0 : l0_0.length ≤ c0_0) (h : spec_l4Done.f k l0_0 a0_1 a1_0 a1_1 a1_2 = some (r1, r2)) :
    Calls Tryd.prog 64 #[.agg #[.slice A0_0 l0_0.length c0_0, .int .i64 a0_1], .agg #[.int .i64 a1_0, .int .i64 a1_1, .int .i64 a1_2]] w fun e w' => ∃ v0_ : Value, e = .returned (.tuple #[v0_, .bool r2]) ∧ Kd.R (Kd.int .i64) 3 w' w.heap.size (fun _ => True) v0_ r1 ∧ Below w.heap.size w w' := by
  have hu64 := Tryd.underlying64
  have hu23 := Tryd.underlying23
  have HR0_0 := aM hr0_0
  have HC0_0 := aM hc0_0
  clear hr0_0 hc0_0
  have HB := aM (Below.refl w.heap.size w)
  have H := h
  unfold spec_l4Done.f at H
  clear h
  replace H := sE H; obtain ⟨y103, Ny103, H⟩ := H
  replace H := bE H; obtain ⟨t106, A3, H⟩ := H
  go_enter Tryd.func64, Tryd.ntmps64
  go_wp2_with (first | (refine boxE 2 #[.slice A0_0 l0_0.length c0_0, .int .i64 a0_1] 64 ?_; intro gbz1 hg wz1 hbox hb; have BKz1 := aM (hbox); have GWz1 := aG hg HB; have GEz1 := aG hg HB; replace HB := aS HB hb; clear hb hbox hg) | (refine boxE 3 #[.int .i64 a1_0, .int .i64 a1_1, .int .i64 a1_2] 23 ?_; intro gbz2 hg wz2 hbox hb; have BKz2 := aM (hbox); have GWz2 := aG hg HB; have GEz2 := aG hg HB; have NBz1 := aL hg BKz1; have NBz2 := aR hg BKz1; replace BKz1 := aB BKz1 hb; replace HB := aS HB hb; clear hb hbox hg) | ((with_reducible refine gate_dst (N := 8) rfl ?_); refine Kd.R_lit (Kd.int .i64) _ 3 ?hg (N := 8) ?hd (xs := ([] : List Int)) (inner := []) (ok := fun _ => True) (okp := fun _ => True) ?hr ?hp (fun _ hk => hk) trivial (Below.refl _ _) (Nat.le_refl _) (by simp) ?_; (case hd => rfl); (case hg => rfl); (case hr => first | (go_simp; done) | (go_simp; rfl)); (case hp => exact (Reps.none _ _)); intro vz1 wz3 hoz1 hb hg_ hnew_; clear hg_ hnew_; (first | rw [← Ny103.out] at hoz1 | (simp only [Int.reduceToNat] at hoz1; rw [← Ny103.out] at hoz1)); have HOz1 := aM (Kd.R_lower hoz1 (below_size (hX HB.out))); replace BKz1 := aB BKz1 hb; replace BKz2 := aB BKz2 hb; replace HB := aS HB hb; clear hb hoz1; have hnbz1 := NBz1.out; have hncz1 := NBz2.out; obtain ⟨hczz1, hczz2, hfzz1, hfzz2⟩ := cZ2 BKz1.out; obtain ⟨hczz3, hczz4, hczz5, hfzz3, hfzz4, hfzz5⟩ := cZ3 BKz2.out; refine Stop.out ?_))
  refine ⟨?_⟩
  by_cases c4 : a1_0 = 1
  · rw [if_pos c4] at H
    obtain ⟨c4b0, c4b1⟩ := eqT c4
    clear c4
    replace H := ifP H; obtain ⟨c5, H⟩ := H
    have c5b0 := decide_eq_true c5
    clear c5
    replace H := ifP H; obtain ⟨c6, H⟩ := H
    have c6b0 := decide_eq_true c6
    clear c6
    go_wp2_with (first | (refine goesM 61 12 Tryd.func61 #[.agg #[.slice A0_0 l0_0.length c0_0, .int .i64 a0_1], .int .i64 a1_2] ?_; refine (spec_KeyOf.calls _ _ _ _ _ _ _ _ (cC HR0_0.out HB.out) HC0_0.out A3.out).mono ?_; rintro e wz4 ⟨rfl, hb⟩; refine ⟨_, rfl, ?_⟩; replace HOz1 := aQ HOz1 hb; replace BKz1 := aB BKz1 hb; replace BKz2 := aB BKz2 hb; replace HB := aS HB hb; clear hb; obtain ⟨hczz6, hczz7, hczz8, hfzz6, hfzz7, hfzz8⟩ := cZ3 BKz2.out; obtain ⟨hczz9, hczz10, hfzz9, hfzz10⟩ := cZ2 BKz1.out; have pz1 : 0 ≤ (a1_1 : Int) := odA; have qz1 : a1_1 < (l0_0.length : Int) := odA; obtain ⟨adz1, ez1, hxz1⟩ := Kd.at_int HR0_0.out a1_1 pz1 qz1; cases ez1; replace hxz1 := bc HB.out hxz1; replace pz1 := eq_true pz1; replace qz1 := eq_true qz1; refine Stop.out ?_))
    refine ⟨?_⟩
    by_cases c7 : (rd l0_0 a1_1) = 0
    case neg =>
      rw [if_neg c7] at H
      obtain ⟨c7b0, c7b1⟩ := eqF c7
      simp only [Option.some.injEq, Prod.mk.injEq] at H
      obtain ⟨rfl, rfl⟩ := H
      go_wp2
      go_ret2
      exact ⟨_, rE, (rX HOz1.out), (hX HB.out)⟩
    rw [if_pos c7] at H
    obtain ⟨c7b0, c7b1⟩ := eqT c7
    clear c7
    simp only [Option.some.injEq, Prod.mk.injEq] at H
    obtain ⟨rfl, rfl⟩ := H
    go_wp2
    go_ret2
    exact ⟨_, rE, (rX HOz1.out), (hX HB.out)⟩
  rw [if_neg c4] at H
  obtain ⟨c4b0, c4b1⟩ := eqF c4
  by_cases c28 : a1_0 = 2
  · rw [if_pos c28] at H
    obtain ⟨c28b0, c28b1⟩ := eqT c28
    clear c28
    replace H := ifP H; obtain ⟨c29, H⟩ := H
    have c29b0 := decide_eq_true c29
    clear c29
    replace H := ifP H; obtain ⟨c30, H⟩ := H
    have c30b0 := decide_eq_true c30
    clear c30
    go_wp2_with (first | (refine goesM 61 12 Tryd.func61 #[.agg #[.slice A0_0 l0_0.length c0_0, .int .i64 a0_1], .int .i64 a1_2] ?_; refine (spec_KeyOf.calls _ _ _ _ _ _ _ _ (cC HR0_0.out HB.out) HC0_0.out A3.out).mono ?_; rintro e wz4 ⟨rfl, hb⟩; refine ⟨_, rfl, ?_⟩; replace HOz1 := aQ HOz1 hb; replace BKz1 := aB BKz1 hb; replace BKz2 := aB BKz2 hb; replace HB := aS HB hb; clear hb; obtain ⟨hczz6, hczz7, hczz8, hfzz6, hfzz7, hfzz8⟩ := cZ3 BKz2.out; refine Stop.out ?_))
    refine ⟨?_⟩
    by_cases c31 : (rd l0_0 a1_1) = 0
    · rw [if_pos c31] at H
      obtain ⟨c31b0, c31b1⟩ := eqT c31
      clear c31
      simp only [Option.some.injEq, Prod.mk.injEq] at H
      obtain ⟨rfl, rfl⟩ := H
      try go_wp2
      replace HOz1 := aM (Kd.R_drew HOz1.out)
      obtain ⟨adz1, ez1, pz1, qz1, hxz1⟩ := at_ic HR0_0 HB a1_1
      cases ez1
      have hcb0_ := cV2 BKz1.out
      have hcb1_ := cV3 BKz2.out
      refine sR0 20 spec_l4Done.tab7 spec_l4Done.bits7 (fun HT_ HW_ hHeld => ?_)
      refine zA 0 ?_
      refine zA 1 ?_
      refine zA 3 ?_
      refine tA 2 ?_
      refine tA 4 ?_
      refine zA 5 ?_
      refine tA 6 ?_
      refine zA 7 ?_
      refine zA 8 ?_
      refine uA 9 ?_
      refine uA 10 ?_
      refine uA 11 ?_
      refine uA 12 ?_
      refine uA 13 ?_
      refine uA 14 ?_
      refine uA 15 ?_
      refine uA 16 ?_
      refine zA 17 ?_
      refine zA 18 ?_
      refine zA 19 ?_
      refine dA ?_
      try go_wp2
      go_ret2
      exact ⟨_, rE, (rX HOz1.out), (hX HB.out)⟩
    rw [if_neg c31] at H
    obtain ⟨c31b0, c31b1⟩ := eqF c31
    by_cases c42 : t106 < 0
    · rw [if_pos c42] at H
      have c42b0 := decide_eq_true c42
      clear c42
      simp only [Option.some.injEq, Prod.mk.injEq] at H
      obtain ⟨rfl, rfl⟩ := H
      try go_wp2
      replace HOz1 := aM (Kd.R_drew HOz1.out)
      obtain ⟨adz1, ez1, pz1, qz1, hxz1⟩ := at_ic HR0_0 HB a1_1
      cases ez1
      have hcb0_ := cV2 BKz1.out
      have hcb1_ := cV3 BKz2.out
      refine sR0 20 spec_l4Done.tab7 spec_l4Done.bits7 (fun HT_ HW_ hHeld => ?_)
      refine zA 0 ?_
      refine zA 1 ?_
      refine zA 3 ?_
      refine tA 2 ?_
      refine tA 4 ?_
      refine zA 5 ?_
      refine tA 6 ?_
      refine zA 7 ?_
      refine zA 8 ?_
      refine zA 9 ?_
      refine zA 10 ?_
      refine zA 11 ?_
      refine uA 12 ?_
      refine uA 13 ?_
      refine uA 14 ?_
      refine uA 15 ?_
      refine zA 16 ?_
      refine zA 17 ?_
      refine zA 18 ?_
      refine zA 19 ?_
      refine dA ?_
      try go_wp2
      go_ret2
      exact ⟨_, rE, (rX HOz1.out), (hX HB.out)⟩
    rw [if_neg c42] at H
    have c42b0 := decide_eq_false c42
    clear c42
    simp only [Option.some.injEq, Prod.mk.injEq] at H
    obtain ⟨rfl, rfl⟩ := H
    try go_wp2
    replace HOz1 := aM (Kd.R_drew HOz1.out)
    obtain ⟨adz1, ez1, pz1, qz1, hxz1⟩ := at_ic HR0_0 HB a1_1
    cases ez1
    have hcb0_ := cV2 BKz1.out
    have hcb1_ := cV3 BKz2.out
    refine sR0 20 spec_l4Done.tab7 spec_l4Done.bits7 (fun HT_ HW_ hHeld => ?_)
    refine zA 0 ?_
    refine zA 1 ?_
    refine zA 3 ?_
    refine tA 2 ?_
    refine tA 4 ?_
    refine zA 5 ?_
    refine tA 6 ?_
    refine zA 7 ?_
    refine zA 8 ?_
    refine zA 9 ?_
    refine zA 10 ?_
    refine zA 11 ?_
    refine zA 12 ?_
    refine zA 13 ?_
    refine zA 18 ?_
    refine tA 14 ?_
    refine zA 15 ?_
    refine zA 16 ?_
    refine zA 17 ?_
    refine zA 19 ?_
    refine dA ?_
    try go_wp2
    go_ret2
    exact ⟨_, rE, (rX HOz1.out), (hX HB.out)⟩
  rw [if_neg c28] at H
  obtain ⟨c28b0, c28b1⟩ := eqF c28
  by_cases c63 : a1_0 = 3
  · rw [if_pos c63] at H
    obtain ⟨c63b0, c63b1⟩ := eqT c63
    clear c63
    replace H := ifP H; obtain ⟨c64, H⟩ := H
    have c64b0 := decide_eq_true c64
    clear c64
    replace H := ifP H; obtain ⟨c65, H⟩ := H
    have c65b0 := decide_eq_true c65
    clear c65
    simp only [Option.some.injEq, Prod.mk.injEq] at H
    obtain ⟨rfl, rfl⟩ := H
    try go_wp2_with (first | (refine goesM 61 12 Tryd.func61 #[.agg #[.slice A0_0 l0_0.length c0_0, .int .i64 a0_1], .int .i64 a1_2] ?_; refine (spec_KeyOf.calls _ _ _ _ _ _ _ _ (cC HR0_0.out HB.out) HC0_0.out A3.out).mono ?_; rintro e wz4 ⟨rfl, hb⟩; refine ⟨_, rfl, ?_⟩; replace HOz1 := aQ HOz1 hb; replace BKz1 := aB BKz1 hb; replace BKz2 := aB BKz2 hb; replace HB := aS HB hb; clear hb; obtain ⟨hczz6, hczz7, hczz8, hfzz6, hfzz7, hfzz8⟩ := cZ3 BKz2.out))
    replace HOz1 := aM (Kd.R_drew HOz1.out)
    obtain ⟨adz1, ez1, pz1, qz1, hxz1⟩ := at_ic HR0_0 HB a1_1
    cases ez1
    have hcb0_ := cV2 BKz1.out
    have hcb1_ := cV3 BKz2.out
    refine sR0 10 spec_l4Done.tab9 spec_l4Done.bits9 (fun HT_ HW_ hHeld => ?_)
    refine zA 0 ?_
    refine zA 1 ?_
    refine zA 3 ?_
    refine zA 8 ?_
    refine tA 2 ?_
    refine tA 4 ?_
    refine zA 5 ?_
    refine tA 6 ?_
    refine zA 7 ?_
    refine zA 9 ?_
    refine dA ?_
    try go_wp2
    go_ret2
    exact ⟨_, rE, (rX HOz1.out), (hX HB.out)⟩
  rw [if_neg c63] at H
  obtain ⟨c63b0, c63b1⟩ := eqF c63
  by_cases c76 : a1_0 = 4
  · rw [if_pos c76] at H
    obtain ⟨c76b0, c76b1⟩ := eqT c76
    clear c76
    replace H := ifP H; obtain ⟨c77, H⟩ := H
    have c77b0 := decide_eq_true c77
    clear c77
    replace H := ifP H; obtain ⟨c78, H⟩ := H
    have c78b0 := decide_eq_true c78
    clear c78
    obtain ⟨y111, hy111⟩ : ∃ y_ : List Int, y_ = (([rd l0_0 a1_1] : List Int)) := ⟨_, rfl⟩
    replace H : (some (y111, ((rd l0_0 a1_1) != 0))) = some (r1, r2) := yH H hy111
    have Ny111 := aM hy111
    clear hy111
    simp only [Option.some.injEq, Prod.mk.injEq] at H
    obtain ⟨rfl, rfl⟩ := H
    try go_wp2_with (first | (refine goesM 61 12 Tryd.func61 #[.agg #[.slice A0_0 l0_0.length c0_0, .int .i64 a0_1], .int .i64 a1_2] ?_; refine (spec_KeyOf.calls _ _ _ _ _ _ _ _ (cC HR0_0.out HB.out) HC0_0.out A3.out).mono ?_; rintro e wz4 ⟨rfl, hb⟩; refine ⟨_, rfl, ?_⟩; replace HOz1 := aQ HOz1 hb; replace BKz1 := aB BKz1 hb; replace BKz2 := aB BKz2 hb; replace HB := aS HB hb; clear hb; obtain ⟨hczz6, hczz7, hczz8, hfzz6, hfzz7, hfzz8⟩ := cZ3 BKz2.out))
    replace HOz1 := aM (Kd.R_drew HOz1.out)
    replace BKz1 := aM (blk_drew BKz1.out)
    replace BKz2 := aM (blk_drew BKz2.out)
    replace HB := aM (below_drew1 HB.out)
    have pz1 : 0 ≤ (a1_1 : Int) := odA
    have qz1 : a1_1 < (l0_0.length : Int) := odA
    obtain ⟨adz1, ez1, hxz1⟩ := Kd.at_int HR0_0.out a1_1 pz1 qz1
    have hwz1 := hxz1
    cases ez1
    replace hxz1 := bc HB.out hxz1
    replace pz1 := eq_true pz1
    replace qz1 := eq_true qz1
    have pz2 : 0 ≤ (a1_1 : Int) := odA
    have qz2 : a1_1 < (l0_0.length : Int) := odA
    obtain ⟨adz2, ez2, hxz2⟩ := Kd.at_int HR0_0.out a1_1 pz2 qz2
    have hwz2 := hxz2
    obtain rfl : adz1 = adz2 := (by injection ez2)
    replace hxz2 := bc HB.out hxz2
    replace pz2 := eq_true pz2
    replace qz2 := eq_true qz2
    refine start_ (n := 16) (S := fun w' => w'.cell? ⟨gbz1, 0, none⟩ = some (.slice (some adz1) l0_0.length c0_0) ∧ w'.cell? ⟨gbz1, 1, none⟩ = some (.int .i64 a0_1) ∧ w'.cell? ⟨gbz2, 0, none⟩ = some (.int .i64 a1_0) ∧ w'.cell? ⟨gbz2, 1, none⟩ = some (.int .i64 a1_1) ∧ w'.cell? ⟨gbz2, 2, none⟩ = some (.int .i64 a1_2) ∧ w'.cell? (adz1.add (a1_1).toNat) = some (.int .i64 (rd l0_0 a1_1)) ∧ w'.cell? (adz1.add (a1_1).toNat) = some (.int .i64 (rd l0_0 a1_1))) (ds := []) (bm 16 0) (by kernel_rfl) rfl (by kernel_rfl) ⟨cK BKz1.out 0, cK BKz1.out 1, cK BKz2.out 0, cK BKz2.out 1, cK BKz2.out 2, (bc HB.out hwz1 :), (bc HB.out hwz2 :)⟩ (fun hHeld => ?_); refine with_tabW spec_l4Done.tab11 spec_l4Done.bits11 (fun HT_ HW_ => ?_)
    generalize wz4.drew = wz5 at HOz1 BKz1 BKz2 HB hxz1 hxz2 hHeld ⊢
    refine pZ 0 61 (bm 16 1) HT_.out ?_
    refine pZ 2 63 (bm 16 5) HT_.out ?_
    refine pZ 7 68 (bm 16 133) HT_.out ?_
    refine pZ 9 70 (bm 16 645) HT_.out ?_
    refine tZ 1 62 (bm 16 647) HT_.out HW_.out hHeld ?_
    refine tZ 3 64 (bm 16 655) HT_.out HW_.out hHeld ?_
    refine pZ 4 65 (bm 16 671) HT_.out ?_
    refine tZ 5 66 (bm 16 703) HT_.out HW_.out hHeld ?_
    refine tZ 8 69 (bm 16 959) HT_.out HW_.out hHeld ?_
    refine tZ 10 71 (bm 16 1983) HT_.out HW_.out hHeld ?_
    refine pZ 11 72 (bm 16 4031) HT_.out ?_
    refine tZ 12 73 (bm 16 8127) HT_.out HW_.out hHeld ?_
    refine pZ 13 74 (bm 16 16319) HT_.out ?_
    refine oZ 6 (some 67) (bm 16 16383) HT_.out (fun K hK => ?_)
    refine Kd.R_lit_step (Kd.int .i64) _ 3 ?hg (N := 67) ?hd (xs := ([rd l0_0 a1_1] : List Int)) (inner := [.int .i64 (rd l0_0 a1_1)]) (ok := fun _ => True) (okp := fun _ => True) ?hr ?hp (fun _ hk => hk) trivial (Below.refl _ _) (Nat.le_refl _) (by simp) ?_; (case hd => rfl); (case hg => rfl); (case hr => first | (go_simp; done) | (go_simp; rfl)); (case hp => exact (Reps.one (show Kd.M (Kd.int .i64) _ _ _ (rd l0_0 a1_1) [.int .i64 (rd l0_0 a1_1)] from rfl) (Reps.none _ _)))
    intro vz2 wz6 hoz2 hb hg_ hnew_
    clear hg_ hnew_
    (first | rw [← Ny111.out] at hoz2 | (simp only [Int.reduceToNat] at hoz2; rw [← Ny111.out] at hoz2))
    have HOz2 := aM (Kd.R_lower (Kd.R_new' hoz2 (Kd.R_lt (rX HOz1.out))) (below_size (hX HB.out)))
    replace HOz1 := aM (Kd.R_elder' (rX HOz1.out) (Kd.R_base hoz2) hb)
    replace BKz1 := aB BKz1 hb
    replace BKz2 := aB BKz2 hb
    replace HB := aS HB hb
    clear hb hoz2
    refine hK.out _ _ ⟨cK BKz1.out 0, cK BKz1.out 1, cK BKz2.out 0, cK BKz2.out 1, cK BKz2.out 2, (bc HB.out hwz1 :), (bc HB.out hwz2 :)⟩ (fun hHeld => ?_)
    clear hK K
    refine nZ 67 ?_
    refine pZ 14 4 (bm 16 32767) HT_.out ?_
    refine pZ 15 5 (bm 16 65535) HT_.out ?_
    refine done_ (done_of HT_.out (by kernel_rfl)) ?_
    try go_wp2
    go_ret2
    exact ⟨_, rE, (rT (h := by exact Kd.R_mono HOz2.out (fun _ hk => trivial))), (hX HB.out)⟩
  rw [if_neg c76] at H
  obtain ⟨c76b0, c76b1⟩ := eqF c76
  by_cases c91 : a1_0 = 5
  · rw [if_pos c91] at H
    obtain ⟨c91b0, c91b1⟩ := eqT c91
    clear c91
    obtain ⟨y115, hy115⟩ : ∃ y_ : List Int, y_ = (([t106] : List Int)) := ⟨_, rfl⟩
    replace H : (some (y115, decide (t106 ≥ 0))) = some (r1, r2) := yH H hy115
    have Ny115 := aM hy115
    clear hy115
    simp only [Option.some.injEq, Prod.mk.injEq] at H
    obtain ⟨rfl, rfl⟩ := H
    go_wp2_with (first | (refine goesM 61 12 Tryd.func61 #[.agg #[.slice A0_0 l0_0.length c0_0, .int .i64 a0_1], .int .i64 a1_2] ?_; refine (spec_KeyOf.calls _ _ _ _ _ _ _ _ (cC HR0_0.out HB.out) HC0_0.out A3.out).mono ?_; rintro e wz4 ⟨rfl, hb⟩; refine ⟨_, rfl, ?_⟩; replace HOz1 := aQ HOz1 hb; replace BKz1 := aB BKz1 hb; replace BKz2 := aB BKz2 hb; replace HB := aS HB hb; clear hb; obtain ⟨hczz6, hczz7, hczz8, hfzz6, hfzz7, hfzz8⟩ := cZ3 BKz2.out) | ((with_reducible refine gate_dst (N := 78) rfl ?_); refine Kd.R_lit (Kd.int .i64) _ 3 ?hg (N := 78) ?hd (xs := ([t106] : List Int)) (inner := [.int .i64 t106]) (ok := fun _ => True) (okp := fun _ => True) ?hr ?hp (fun _ hk => hk) trivial (Below.refl _ _) (Nat.le_refl _) (by simp) ?_; (case hd => rfl); (case hg => rfl); (case hr => first | (go_simp; done) | (go_simp; rfl)); (case hp => exact (Reps.one (show Kd.M (Kd.int .i64) _ _ _ t106 [.int .i64 t106] from rfl) (Reps.none _ _))); intro vz2 wz5 hoz2 hb hg_ hnew_; clear hg_ hnew_; (first | rw [← Ny115.out] at hoz2 | (simp only [Int.reduceToNat] at hoz2; rw [← Ny115.out] at hoz2)); have HOz2 := aM (Kd.R_lower (Kd.R_new' hoz2 (Kd.R_lt (rX HOz1.out))) (below_size (hX HB.out))); replace HOz1 := aM (Kd.R_elder' (rX HOz1.out) (Kd.R_base hoz2) hb); replace BKz1 := aB BKz1 hb; replace BKz2 := aB BKz2 hb; replace HB := aS HB hb; clear hb hoz2))
    go_ret2
    exact ⟨_, rE, (rT (h := by exact Kd.R_mono HOz2.out (fun _ hk => trivial))), (hX HB.out)⟩
  rw [if_neg c91] at H
  obtain ⟨c91b0, c91b1⟩ := eqF c91
  by_cases c103 : a1_0 = 6
  · rw [if_pos c103] at H
    obtain ⟨c103b0, c103b1⟩ := eqT c103
    clear c103
    replace H := bE H; obtain ⟨t118, A104, H⟩ := H
    obtain ⟨y119, hy119⟩ : ∃ y_ : List Int, y_ = (([t118] : List Int)) := ⟨_, rfl⟩
    replace H : (some (y119, true)) = some (r1, r2) := yH H hy119
    have Ny119 := aM hy119
    clear hy119
    simp only [Option.some.injEq, Prod.mk.injEq] at H
    obtain ⟨rfl, rfl⟩ := H
    go_wp2_with (first | (refine goesM 61 12 Tryd.func61 #[.agg #[.slice A0_0 l0_0.length c0_0, .int .i64 a0_1], .int .i64 a1_2] ?_; refine (spec_KeyOf.calls _ _ _ _ _ _ _ _ (cC HR0_0.out HB.out) HC0_0.out A3.out).mono ?_; rintro e wz4 ⟨rfl, hb⟩; refine ⟨_, rfl, ?_⟩; replace HOz1 := aQ HOz1 hb; replace BKz1 := aB BKz1 hb; replace BKz2 := aB BKz2 hb; replace HB := aS HB hb; clear hb; obtain ⟨hczz6, hczz7, hczz8, hfzz6, hfzz7, hfzz8⟩ := cZ3 BKz2.out; obtain ⟨hczz9, hczz10, hfzz9, hfzz10⟩ := cZ2 BKz1.out) | (refine goesM 69 86 Tryd.func69 #[.agg #[.slice A0_0 l0_0.length c0_0, .int .i64 a0_1], .int .i64 a1_1] ?_; refine (spec_HowMany.calls _ _ _ _ _ _ _ _ (cC HR0_0.out HB.out) HC0_0.out A104.out).mono ?_; rintro e wz5 ⟨rfl, hb⟩; refine ⟨_, rfl, ?_⟩; replace HOz1 := aQ HOz1 hb; replace BKz1 := aB BKz1 hb; replace BKz2 := aB BKz2 hb; replace HB := aS HB hb; clear hb) | ((with_reducible refine gate_dst (N := 87) rfl ?_); refine Kd.R_lit (Kd.int .i64) _ 3 ?hg (N := 87) ?hd (xs := ([t118] : List Int)) (inner := [.int .i64 t118]) (ok := fun _ => True) (okp := fun _ => True) ?hr ?hp (fun _ hk => hk) trivial (Below.refl _ _) (Nat.le_refl _) (by simp) ?_; (case hd => rfl); (case hg => rfl); (case hr => first | (go_simp; done) | (go_simp; rfl)); (case hp => exact (Reps.one (show Kd.M (Kd.int .i64) _ _ _ t118 [.int .i64 t118] from rfl) (Reps.none _ _))); intro vz2 wz6 hoz2 hb hg_ hnew_; clear hg_ hnew_; (first | rw [← Ny119.out] at hoz2 | (simp only [Int.reduceToNat] at hoz2; rw [← Ny119.out] at hoz2)); have HOz2 := aM (Kd.R_lower (Kd.R_new' hoz2 (Kd.R_lt (rX HOz1.out))) (below_size (hX HB.out))); replace HOz1 := aM (Kd.R_elder' (rX HOz1.out) (Kd.R_base hoz2) hb); replace BKz1 := aB BKz1 hb; replace BKz2 := aB BKz2 hb; replace HB := aS HB hb; clear hb hoz2))
    go_ret2
    exact ⟨_, rE, (rT (h := by exact Kd.R_mono HOz2.out (fun _ hk => trivial))), (hX HB.out)⟩
  rw [if_neg c103] at H
  obtain ⟨c103b0, c103b1⟩ := eqF c103
  by_cases c118 : a1_0 = 7
  · rw [if_pos c118] at H
    obtain ⟨c118b0, c118b1⟩ := eqT c118
    clear c118
    obtain ⟨y122, hy122⟩ : ∃ y_ : List Int, y_ = (([] : List Int)) := ⟨_, rfl⟩
    replace H : (if y122.length + l0_0.length < 17592186044416 then (some ((y122 ++ l0_0), true)) else (none)) = some (r1, r2) := yH H hy122
    have Ny122 := aM hy122
    clear hy122
    replace H := ifP H; obtain ⟨c119, H⟩ := H
    have LMc119 := aM c119
    clear c119
    obtain ⟨y125, hy125⟩ : ∃ y_ : List Int, y_ = (y122 ++ l0_0) := ⟨_, rfl⟩
    replace H : (some (y125, true)) = some (r1, r2) := yH H hy125
    have Ny125 := aM hy125
    clear hy125
    simp only [Option.some.injEq, Prod.mk.injEq] at H
    obtain ⟨rfl, rfl⟩ := H
    go_wp2_with (first | (refine goesM 61 12 Tryd.func61 #[.agg #[.slice A0_0 l0_0.length c0_0, .int .i64 a0_1], .int .i64 a1_2] ?_; refine (spec_KeyOf.calls _ _ _ _ _ _ _ _ (cC HR0_0.out HB.out) HC0_0.out A3.out).mono ?_; rintro e wz4 ⟨rfl, hb⟩; refine ⟨_, rfl, ?_⟩; replace HOz1 := aQ HOz1 hb; replace BKz1 := aB BKz1 hb; replace BKz2 := aB BKz2 hb; replace HB := aS HB hb; clear hb; obtain ⟨hczz6, hczz7, hczz8, hfzz6, hfzz7, hfzz8⟩ := cZ3 BKz2.out) | ((with_reducible refine gate_dst (N := 90) rfl ?_); refine Kd.R_lit (Kd.int .i64) _ 3 ?hg (N := 90) ?hd (xs := ([] : List Int)) (inner := []) (ok := fun _ => True) (okp := fun _ => True) ?hr ?hp (fun _ hk => hk) trivial (Below.refl _ _) (Nat.le_refl _) (by simp) ?_; (case hd => rfl); (case hg => rfl); (case hr => first | (go_simp; done) | (go_simp; rfl)); (case hp => exact (Reps.none _ _)); intro vz2 wz5 hoz2 hb hg_ hnew_; clear hg_ hnew_; (first | rw [← Ny122.out] at hoz2 | (simp only [Int.reduceToNat] at hoz2; rw [← Ny122.out] at hoz2)); have HOz2 := aM (Kd.R_lower (Kd.R_new' hoz2 (Kd.R_lt (rX HOz1.out))) (below_size (hX HB.out))); replace HOz1 := aM (Kd.R_elder' (rX HOz1.out) (Kd.R_base hoz2) hb); replace BKz1 := aB BKz1 hb; replace BKz2 := aB BKz2 hb; replace HB := aS HB hb; clear hb hoz2; obtain ⟨hczz9, hczz10, hfzz9, hfzz10⟩ := cZ2 BKz1.out) | ((with_reducible refine gate_builtin (b := .append) (xs := #[.tmp 90, .tmp 92]) rfl ?_); at_builtin; refine Kd.R_append_rows (Kd.int .i64) (w0 := w) w.heap.size rfl (.tmp 90) (.tmp 92) 39 3 (.int .i64 0) 8 rfl Tryd.underlying39 info3 rfl (by decide) (by omega) vz2 y122 l0_0 _ _ _ (fun k_ => some k_ ≠ (vz1 : Value).ownBlock) (fun _ => False) rfl rfl ?aO ?aR (fun _ _ h => h) (fun _ h => h.elim) ?aF ?aB ?aS ?aL ?_; (case aR => repeat (first | exact (Kd.C_below HR0_0.out HB.out) | (with_reducible refine Kd.C_alloc ?_ _) | (with_reducible refine Kd.C_drewN ?_ _) | (with_reducible refine Kd.C_drew ?_))); (case aB => exact (hX HB.out)); (case aF => exact (fun k_ hk => Kd.fresh' (Kd.R_lt (rX HOz1.out)) k_ hk)); (case aO => exact (rT (h := by exact Kd.R_mono HOz2.out (fun _ hk => hk.2)))); (case aS => exact (below_size (hX HB.out))); (case aL => have := LMc119.out; omega); intro vz3 wz6 ho hb hg hat; rw [← Ny125.out] at ho; have HOz3 := aM (ho); replace BKz1 := aM (blk_grown (g := gbz1) (o := .cells #[.slice A0_0 l0_0.length c0_0, .int .i64 a0_1] 64 (0, 0)) (bX BKz1.out) hg (Kd.R_ne HOz2.out BKz1.out (by decide))); replace BKz2 := aM (blk_grown (g := gbz2) (o := .cells #[.int .i64 a1_0, .int .i64 a1_1, .int .i64 a1_2] 23 (0, 0)) (bX BKz2.out) hg (Kd.R_ne HOz2.out BKz2.out (by decide))); replace HOz1 := aM (Kd.R_after (ok := (fun _ => True)) (rX HOz1.out) hg hat); replace HB := aM (hb); clear HOz2; clear ho hb hg hat))
    go_ret2
    exact ⟨_, rE, (rT (h := by exact Kd.R_mono HOz3.out (fun _ hk => trivial))), (hX HB.out)⟩
  rw [if_neg c118] at H
  obtain ⟨c118b0, c118b1⟩ := eqF c118
  by_cases c133 : a1_0 = 8
  · rw [if_pos c133] at H
    obtain ⟨c133b0, c133b1⟩ := eqT c133
    clear c133
    simp only [Option.some.injEq, Prod.mk.injEq] at H
    obtain ⟨rfl, rfl⟩ := H
    try go_wp2_with (first | (refine goesM 61 12 Tryd.func61 #[.agg #[.slice A0_0 l0_0.length c0_0, .int .i64 a0_1], .int .i64 a1_2] ?_; refine (spec_KeyOf.calls _ _ _ _ _ _ _ _ (cC HR0_0.out HB.out) HC0_0.out A3.out).mono ?_; rintro e wz4 ⟨rfl, hb⟩; refine ⟨_, rfl, ?_⟩; replace HOz1 := aQ HOz1 hb; replace BKz1 := aB BKz1 hb; replace BKz2 := aB BKz2 hb; replace HB := aS HB hb; clear hb; obtain ⟨hczz6, hczz7, hczz8, hfzz6, hfzz7, hfzz8⟩ := cZ3 BKz2.out))
    replace HOz1 := aM (Kd.R_drew HOz1.out)
    replace BKz1 := aM (blk_drew BKz1.out)
    replace BKz2 := aM (blk_drew BKz2.out)
    replace HB := aM (below_drew1 HB.out)
    refine start_ (n := 6) (S := fun w' => w'.cell? ⟨gbz1, 0, none⟩ = some (.slice A0_0 l0_0.length c0_0) ∧ w'.cell? ⟨gbz1, 1, none⟩ = some (.int .i64 a0_1)) (ds := []) (bm 6 0) (by kernel_rfl) rfl (by kernel_rfl) ⟨cK BKz1.out 0, cK BKz1.out 1⟩ (fun hHeld => ?_)
    generalize wz4.drew = wz5 at HOz1 BKz1 BKz2 HB hHeld ⊢
    refine pK 0 96 (bm 6 1) ?_
    refine pK 1 97 (bm 6 3) ?_
    refine pK 4 4 (bm 6 19) ?_
    refine tK 2 98 (bm 6 23) hHeld ?_
    refine pK 3 99 (bm 6 31) ?_
    refine pK 5 5 (bm 6 63) ?_
    refine done_ (by kernel_rfl) ?_
    try go_wp2
    go_ret2
    exact ⟨_, rE, (rX HOz1.out), (hX HB.out)⟩
  rw [if_neg c133] at H
  obtain ⟨c133b0, c133b1⟩ := eqF c133
  by_cases c144 : a1_0 = 9
  · rw [if_pos c144] at H
    obtain ⟨c144b0, c144b1⟩ := eqT c144
    clear c144
    replace H := bE H; obtain ⟨t128, A145, H⟩ := H
    simp only [Option.some.injEq, Prod.mk.injEq] at H
    obtain ⟨rfl, rfl⟩ := H
    go_wp2_with (first | (refine goesM 61 12 Tryd.func61 #[.agg #[.slice A0_0 l0_0.length c0_0, .int .i64 a0_1], .int .i64 a1_2] ?_; refine (spec_KeyOf.calls _ _ _ _ _ _ _ _ (cC HR0_0.out HB.out) HC0_0.out A3.out).mono ?_; rintro e wz4 ⟨rfl, hb⟩; refine ⟨_, rfl, ?_⟩; replace HOz1 := aQ HOz1 hb; replace BKz1 := aB BKz1 hb; replace BKz2 := aB BKz2 hb; replace HB := aS HB hb; clear hb; obtain ⟨hczz6, hczz7, hczz8, hfzz6, hfzz7, hfzz8⟩ := cZ3 BKz2.out; obtain ⟨hczz9, hczz10, hfzz9, hfzz10⟩ := cZ2 BKz1.out) | (refine goesM 51 105 Tryd.func51 #[.int .i64 a0_1, .int .i64 1, .int .i64 4] ?_; refine (spec_l1In.calls _ _ _ _ _ A145.out).mono ?_; rintro e w' ⟨rfl, ⟨nd, rfl⟩⟩; refine ⟨_, rfl, ?_⟩))
    go_ret2
    exact ⟨_, rE, (rX HOz1.out), (hX HB.out)⟩
  rw [if_neg c144] at H
  obtain ⟨c144b0, c144b1⟩ := eqF c144
  obtain ⟨y129, hy129⟩ : ∃ y_ : List Int, y_ = (([t106] : List Int)) := ⟨_, rfl⟩
  replace H : (if a0_1 = 5 then (some (y129, decide (t106 ≥ 0))) else (some (y129, false))) = some (r1, r2) := yH H hy129
  have Ny129 := aM hy129
  clear hy129
  go_wp2_with (first | (refine goesM 61 12 Tryd.func61 #[.agg #[.slice A0_0 l0_0.length c0_0, .int .i64 a0_1], .int .i64 a1_2] ?_; refine (spec_KeyOf.calls _ _ _ _ _ _ _ _ (cC HR0_0.out HB.out) HC0_0.out A3.out).mono ?_; rintro e wz4 ⟨rfl, hb⟩; refine ⟨_, rfl, ?_⟩; replace HOz1 := aQ HOz1 hb; replace BKz1 := aB BKz1 hb; replace BKz2 := aB BKz2 hb; replace HB := aS HB hb; clear hb; obtain ⟨hczz6, hczz7, hczz8, hfzz6, hfzz7, hfzz8⟩ := cZ3 BKz2.out) | ((with_reducible refine gate_dst (N := 107) rfl ?_); refine Kd.R_lit (Kd.int .i64) _ 3 ?hg (N := 107) ?hd (xs := ([t106] : List Int)) (inner := [.int .i64 t106]) (ok := fun _ => True) (okp := fun _ => True) ?hr ?hp (fun _ hk => hk) trivial (Below.refl _ _) (Nat.le_refl _) (by simp) ?_; (case hd => rfl); (case hg => rfl); (case hr => first | (go_simp; done) | (go_simp; rfl)); (case hp => exact (Reps.one (show Kd.M (Kd.int .i64) _ _ _ t106 [.int .i64 t106] from rfl) (Reps.none _ _))); intro vz2 wz5 hoz2 hb hg_ hnew_; clear hg_ hnew_; (first | rw [← Ny129.out] at hoz2 | (simp only [Int.reduceToNat] at hoz2; rw [← Ny129.out] at hoz2)); have HOz2 := aM (Kd.R_lower (Kd.R_new' hoz2 (Kd.R_lt (rX HOz1.out))) (below_size (hX HB.out))); replace HOz1 := aM (Kd.R_elder' (rX HOz1.out) (Kd.R_base hoz2) hb); replace BKz1 := aB BKz1 hb; replace BKz2 := aB BKz2 hb; replace HB := aS HB hb; clear hb hoz2; obtain ⟨hczz9, hczz10, hfzz9, hfzz10⟩ := cZ2 BKz1.out; refine Stop.out ?_))
  refine ⟨?_⟩
  by_cases c156 : a0_1 = 5
  case neg =>
    rw [if_neg c156] at H
    obtain ⟨c156b0, c156b1⟩ := eqF c156
    simp only [Option.some.injEq, Prod.mk.injEq] at H
    obtain ⟨rfl, rfl⟩ := H
    go_wp2
    go_ret2
    exact ⟨_, rE, (rT (h := by exact Kd.R_mono HOz2.out (fun _ hk => trivial))), (hX HB.out)⟩
  rw [if_pos c156] at H
  obtain ⟨c156b0, c156b1⟩ := eqT c156
  clear c156
  simp only [Option.some.injEq, Prod.mk.injEq] at H
  obtain ⟨rfl, rfl⟩ := H
  go_wp2
  go_ret2
  exact ⟨_, rE, (rT (h := by exact Kd.R_mono HOz2.out (fun _ hk => trivial))), (hX HB.out)⟩
mutual
def spec_l4DrawRes.j0 : Nat → Bool → List Int → Int → Int → List Int → Int → Int → Int → Int → Option (Int × List Int × Int × Int)
  | 0, _, _, _, _, _, _, _, _, _ => none
  | k + 1, x20, x1000, x1001, x1002, x102000, x102001, x103000, x103001, x103002 => if x20 = true then ((spec_l4Done.f k x102000 x102001 x103000 x103001 x103002).bind fun bt109 => (if bt109.2 = true then (some (0, bt109.1, x1001, x1002)) else (spec_l4DrawRes.j1 k x1000 x1001 x1002))) else (spec_l4DrawRes.j1 k x1000 x1001 x1002)
def spec_l4DrawRes.j1 : Nat → List Int → Int → Int → Option (Int × List Int × Int × Int)
  | 0, _, _, _ => none
  | k + 1, x1000, x1001, x1002 => (spec_l1Below.f x1000 x1001 x1002 7).bind fun bt113 => ((spec_l1Once.f x1000 bt113.2.1 bt113.2.2 4).bind fun bt117 => (if bt117.1 = true then ((spec_l1Below.f x1000 bt117.2.1 bt117.2.2 4).bind fun bt120 => (some (wrap64 (bt113.1 - 1), (([bt120.1] : List Int)), bt120.2.1, bt120.2.2))) else (some (wrap64 (bt113.1 - 1), ([] : List Int), bt117.2.1, bt117.2.2))))
end
def spec_l4DrawRes.f (k : Nat) (s0_0 : List Int) (s0_1 : Int) (s0_2 : Int) (l1_0 : List Int) (a1_1 : Int) (a2_0 : Int) (a2_1 : Int) (a2_2 : Int) : Option (Int × List Int × Int × Int) := (spec_RowsOk.f k l1_0 a1_1).bind fun t104 => (if t104 = true then ((spec_OpOk.f k a2_0 a2_1 a2_2).bind fun t105 => (if t105 = true then ((spec_l1Once.f s0_0 s0_1 s0_2 3).bind fun bt106 => (spec_l4DrawRes.j0 k (!bt106.1) s0_0 bt106.2.1 bt106.2.2 l1_0 a1_1 a2_0 a2_1 a2_2)) else (spec_l4DrawRes.j0 k false s0_0 s0_1 s0_2 l1_0 a1_1 a2_0 a2_1 a2_2))) else (spec_l4DrawRes.j0 k false s0_0 s0_1 s0_2 l1_0 a1_1 a2_0 a2_1 a2_2))
set_option maxHeartbeats 8000000 in
set_option maxRecDepth 100000 in
theorem spec_l4DrawRes.calls (k : Nat) (g : Nat) (s0_0 : List Int) (s0_1 : Int) (s0_2 : Int) (A1_0 : Option Addr) (c1_0 : Nat) (l1_0 : List Int) (a1_1 : Int) (a2_0 : Int) (a2_1 : Int) (a2_2 : Int) (r1 : Int) (r2 : List Int) (r3 : Int) (r4 : Int) (w0 w : World) (hI : IsS72 w0 w g s0_0 s0_1 s0_2) (hB : Below w0.heap.size w0 w) (hr1_0 : Kd.C (Kd.int .i64) w A1_0 l1_0.length l1_0) (hc1_0 : l1_0.length ≤ c1_0) (hf1_0 : ∀ ad, A1_0 = some ad → 0 < l1_0.length → ad.block ≠ g) (h : spec_l4DrawRes.f k s0_0 s0_1 s0_2 l1_0 a1_1 a2_0 a2_1 a2_2 = some (r1, r2, r3, r4)) :
    Calls Tryd.prog 44 #[.pointer (some ⟨g, 0, none⟩), .agg #[.slice A1_0 l1_0.length c1_0, .int .i64 a1_1], .agg #[.int .i64 a2_0, .int .i64 a2_1, .int .i64 a2_2]] w fun e w' => ∃ v1_ : Value, e = .returned (.agg #[.int .i64 r1, v1_]) ∧ Kd.R (Kd.int .i64) 3 w' w.heap.size (fun _ => True) v1_ r2 ∧ IsS72 w0 w' g s0_0 r3 r4 ∧ Below w0.heap.size w0 w' ∧ KeepBut w w' g none := by
  have hu64 := Tryd.underlying64
  have hu23 := Tryd.underlying23
  have hu41 := Tryd.underlying41
  have HR1_0 := aM hr1_0
  have HC1_0 := aM hc1_0
  clear hr1_0 hc1_0
  have HI0 := aM hI
  have HK := aM (KeepBut.refl w g none)
  have HL := aM hB.size
  clear hI
  have HW0 := aM hB.size
  have HB := aM hB
  clear hB
  have H := h
  unfold spec_l4DrawRes.f at H
  clear h
  have HC4 := aM H
  clear H
  go_enter Tryd.func44, Tryd.ntmps44
  go_upto_region 1 with (first | ((with_reducible refine gate_dst (N := 4) rfl ?_); refine boxE 4 #[.slice A1_0 l1_0.length c1_0, .int .i64 a1_1] 64 ?_; intro gbz1 hg wz1 hbox hb; have BKz1 := aM (hbox); have GWz1 := aM ((by rw [hg]; exact (keep_size (w := w) (g := g) (row := none) (kX HK.out)) : w.heap.size ≤ gbz1)); have GEz1 := aM ((Nat.le_trans HW0.out (by rw [hg]; exact (keep_size (w := w) (g := g) (row := none) (kX HK.out)) : w.heap.size ≤ gbz1) : w0.heap.size ≤ gbz1)); have NBz1 := aM ((by rw [hg]; exact Nat.ne_of_lt (IsS72.lt (show IsS72 w0 _ g s0_0 s0_1 s0_2 from (i72 HI0.out))) : g ≠ gbz1)); have NBz2 := aM ((by rw [hg]; exact Nat.ne_of_gt (IsS72.lt (show IsS72 w0 _ g s0_0 s0_1 s0_2 from (i72 HI0.out))) : gbz1 ≠ g)); replace HK := aM (KeepBut.trans (kX HK.out) (KeepBut.of_below hb g none) (.inl rfl)); replace HB := aM (below_step (hY HB.out (IsS72.ge HI0.out)) hb); replace HI0 := aM (IsS72.below (i72 HI0.out) hb); clear hb hbox hg) | ((with_reducible refine gate_dst (N := 5) rfl ?_); refine boxE 5 #[.int .i64 a2_0, .int .i64 a2_1, .int .i64 a2_2] 23 ?_; intro gbz2 hg wz2 hbox hb; have BKz2 := aM (hbox); have GWz2 := aM ((by rw [hg]; exact (keep_size (w := w) (g := g) (row := none) (kX HK.out)) : w.heap.size ≤ gbz2)); have GEz2 := aM ((Nat.le_trans HW0.out (by rw [hg]; exact (keep_size (w := w) (g := g) (row := none) (kX HK.out)) : w.heap.size ≤ gbz2) : w0.heap.size ≤ gbz2)); have NBz3 := aL hg BKz1; have NBz4 := aR hg BKz1; have NBz5 := aM ((by rw [hg]; exact Nat.ne_of_lt (IsS72.lt (show IsS72 w0 _ g s0_0 s0_1 s0_2 from (i72 HI0.out))) : g ≠ gbz2)); have NBz6 := aM ((by rw [hg]; exact Nat.ne_of_gt (IsS72.lt (show IsS72 w0 _ g s0_0 s0_1 s0_2 from (i72 HI0.out))) : gbz2 ≠ g)); replace BKz1 := aB BKz1 hb; replace HK := aM (KeepBut.trans (kX HK.out) (KeepBut.of_below hb g none) (.inl rfl)); replace HB := aM (below_step (hY HB.out (IsS72.ge HI0.out)) hb); replace HI0 := aM (IsS72.below (i72 HI0.out) hb); clear hb hbox hg) | ((with_reducible refine gate_dst (N := 6) rfl ?_); refine boxE 6 #[.int .i64 0, .slice none 0 0] 41 ?_; intro gbz3 hg wz3 hbox hb; have BKz3 := aM (hbox); have GWz3 := aM ((by rw [hg]; exact (keep_size (w := w) (g := g) (row := none) (kX HK.out)) : w.heap.size ≤ gbz3)); have GEz3 := aM ((Nat.le_trans HW0.out (by rw [hg]; exact (keep_size (w := w) (g := g) (row := none) (kX HK.out)) : w.heap.size ≤ gbz3) : w0.heap.size ≤ gbz3)); have NBz7 := aL hg BKz1; have NBz8 := aR hg BKz1; have NBz9 := aL hg BKz2; have NBz10 := aR hg BKz2; have NBz11 := aM ((by rw [hg]; exact Nat.ne_of_lt (IsS72.lt (show IsS72 w0 _ g s0_0 s0_1 s0_2 from (i72 HI0.out))) : g ≠ gbz3)); have NBz12 := aM ((by rw [hg]; exact Nat.ne_of_gt (IsS72.lt (show IsS72 w0 _ g s0_0 s0_1 s0_2 from (i72 HI0.out))) : gbz3 ≠ g)); replace BKz1 := aB BKz1 hb; replace BKz2 := aB BKz2 hb; replace HK := aM (KeepBut.trans (kX HK.out) (KeepBut.of_below hb g none) (.inl rfl)); replace HB := aM (below_step (hY HB.out (IsS72.ge HI0.out)) hb); replace HI0 := aM (IsS72.below (i72 HI0.out) hb); clear hb hbox hg))
  (try simp only [Act.put, List.setIfInBounds_toArray, List.set_cons_zero, List.set_cons_succ])
  go_cut [20] (fun vz1 wc => ∃ (kq : Nat) (x20_3 : Bool) (x1001_3 : Int) (x1002_3 : Int), vz1 = .bool x20_3 ∧ Aside0 (spec_l4DrawRes.j0 kq x20_3 s0_0 x1001_3 x1002_3 l1_0 a1_1 a2_0 a2_1 a2_2 = some (r1, r2, r3, r4)) ∧ Aside0 (kq ≤ k) ∧ Aside0 (wc.heap[gbz1]? = some (.cells #[(.slice A1_0 l1_0.length c1_0), .int .i64 a1_1] 64 (0, 0))) ∧ Aside0 (wc.heap[gbz2]? = some (.cells #[.int .i64 a2_0, .int .i64 a2_1, .int .i64 a2_2] 23 (0, 0))) ∧ Aside0 (wc.heap[gbz3]? = some (.cells #[.int .i64 0, (.slice none 0 0)] 41 (0, 0))) ∧ Aside0 (IsS72 w0 wc g s0_0 x1001_3 x1002_3) ∧ Aside0 (KeepBut w wc g none) ∧ Aside0 (Below w0.heap.size w0 wc))
  case first =>
    have H := HC4.out
    clear HC4
    replace H := bE H; obtain ⟨t104, A8, H⟩ := H
    by_cases c9 : t104 = true
    case neg =>
      replace c9 := Bool.eq_false_iff.mpr c9
      subst c9
      rw [if_neg nft] at H
      have H' := aM H
      clear H
      have hnby1 := NBz3.out
      have hncy1 := NBz4.out
      have hnby2 := NBz7.out
      have hncy2 := NBz8.out
      have hnby3 := NBz2.out
      have hncy3 := NBz1.out
      obtain ⟨hczy1, hczy2, hfzy1, hfzy2⟩ := cZ2 BKz1.out
      go_wp2_with (first | (refine goesM 63 11 Tryd.func63 #[.agg #[.slice A1_0 l1_0.length c1_0, .int .i64 a1_1]] ?_; refine (spec_RowsOk.calls k _ _ l1_0 a1_1 false _ (by exact Kd.C_keep 0 HR1_0.out (kX HK.out) hf1_0) HC1_0.out A8.out).mono ?_; rintro e wy1 ⟨rfl, hb⟩; refine ⟨_, rfl, ?_⟩; replace BKz1 := aB BKz1 hb; replace BKz2 := aB BKz2 hb; replace BKz3 := aB BKz3 hb; replace HK := aM (KeepBut.trans (kX HK.out) (KeepBut.of_below hb g none) (.inl rfl)); replace HB := aM (below_step (hY HB.out (IsS72.ge HI0.out)) hb); replace HI0 := aM (IsS72.below (i72 HI0.out) hb); clear hb))
      go_meet
      case rel => exact ⟨_, (false), (s0_1), (s0_2), rS, H', ⟨by first | omega | exact Nat.le_refl _⟩, ⟨(bX BKz1.out)⟩, ⟨(bX BKz2.out)⟩, ⟨(bX BKz3.out)⟩, ⟨(i72 HI0.out)⟩, ⟨(kX HK.out)⟩, ⟨(hY HB.out (IsS72.ge HI0.out))⟩⟩
    subst c9
    rw [if_pos rfl] at H
    replace H := bE H; obtain ⟨t105, A10, H⟩ := H
    have hnby1 := NBz3.out
    have hncy1 := NBz4.out
    have hnby2 := NBz7.out
    have hncy2 := NBz8.out
    have hnby3 := NBz2.out
    have hncy3 := NBz1.out
    obtain ⟨hczy1, hczy2, hfzy1, hfzy2⟩ := cZ2 BKz1.out
    go_wp2_with (first | (refine goesM 63 11 Tryd.func63 #[.agg #[.slice A1_0 l1_0.length c1_0, .int .i64 a1_1]] ?_; refine (spec_RowsOk.calls k _ _ l1_0 a1_1 true _ (by exact Kd.C_keep 0 HR1_0.out (kX HK.out) hf1_0) HC1_0.out A8.out).mono ?_; rintro e wy1 ⟨rfl, hb⟩; refine ⟨_, rfl, ?_⟩; replace BKz1 := aB BKz1 hb; replace BKz2 := aB BKz2 hb; replace BKz3 := aB BKz3 hb; replace HK := aM (KeepBut.trans (kX HK.out) (KeepBut.of_below hb g none) (.inl rfl)); replace HB := aM (below_step (hY HB.out (IsS72.ge HI0.out)) hb); replace HI0 := aM (IsS72.below (i72 HI0.out) hb); clear hb; have hnby4 := NBz9.out; have hncy4 := NBz10.out; have hnby5 := NBz6.out; have hncy5 := NBz5.out; obtain ⟨hczy3, hczy4, hczy5, hfzy3, hfzy4, hfzy5⟩ := cZ3 BKz2.out; refine Stop.out ?_))
    refine ⟨?_⟩
    by_cases c11 : t105 = true
    case neg =>
      replace c11 := Bool.eq_false_iff.mpr c11
      subst c11
      rw [if_neg nft] at H
      have H' := aM H
      clear H
      go_wp2_with (first | (go_at_call 31; (with_reducible refine (spec_OpOk.calls _ _ _ _ _ _ A10.out).mono ?_); rintro e wy2 ⟨rfl, hb⟩; replace BKz1 := aB BKz1 hb; replace BKz2 := aB BKz2 hb; replace BKz3 := aB BKz3 hb; replace HK := aM (KeepBut.trans (kX HK.out) (KeepBut.of_below hb g none) (.inl rfl)); replace HB := aM (below_step (hY HB.out (IsS72.ge HI0.out)) hb); replace HI0 := aM (IsS72.below (i72 HI0.out) hb); clear hb))
      go_meet
      case rel => exact ⟨_, (false), (s0_1), (s0_2), rS, H', ⟨by first | omega | exact Nat.le_refl _⟩, ⟨(bX BKz1.out)⟩, ⟨(bX BKz2.out)⟩, ⟨(bX BKz3.out)⟩, ⟨(i72 HI0.out)⟩, ⟨(kX HK.out)⟩, ⟨(hY HB.out (IsS72.ge HI0.out))⟩⟩
    subst c11
    rw [if_pos rfl] at H
    replace H := bE H; obtain ⟨⟨t106, t107, t108⟩, A12, H⟩ := H
    try dsimp only at H
    have H' := aM H
    clear H
    go_wp2_with (first | (go_at_call 31; (with_reducible refine (spec_OpOk.calls _ _ _ _ _ _ A10.out).mono ?_); rintro e wy2 ⟨rfl, hb⟩; replace BKz1 := aB BKz1 hb; replace BKz2 := aB BKz2 hb; replace BKz3 := aB BKz3 hb; replace HK := aM (KeepBut.trans (kX HK.out) (KeepBut.of_below hb g none) (.inl rfl)); replace HB := aM (below_step (hY HB.out (IsS72.ge HI0.out)) hb); replace HI0 := aM (IsS72.below (i72 HI0.out) hb); clear hb) | (go_at_call 38; (with_reducible refine (spec_l1Once.calls g s0_0 s0_1 s0_2 3 t106 t107 t108 w0 _ (by repeat (first | (with_reducible first | exact HI0.out | apply IsS72.alloc | apply IsS72.drewN | apply IsS72.drew | apply IsS72.set_1 | apply IsS72.set_2 | refine IsS72.far ?_ NBz1.out _ | refine IsS72.far ?_ NBz5.out _ | refine IsS72.far ?_ NBz11.out _) | exact HI0.out)) (by repeat (first | (with_reducible first | exact HB.out | apply below_alloc | apply pw_below_drewN | apply below_drew1 | refine below_set ?_ (IsS72.ge HI0.out) | refine below_set ?_ GEz1.out | refine below_set ?_ GEz2.out | refine below_set ?_ GEz3.out) | exact HB.out)) A12.out).mono ?_); rintro e wy3 ⟨rfl, hi, hb, hk⟩; replace BKz1 := aM (KeepBut.blk hk (g' := gbz1) (o := .cells #[.slice A1_0 l1_0.length c1_0, .int .i64 a1_1] 64 (0, 0)) (bX BKz1.out) NBz2.out (by simp)); replace BKz2 := aM (KeepBut.blk hk (g' := gbz2) (o := .cells #[.int .i64 a2_0, .int .i64 a2_1, .int .i64 a2_2] 23 (0, 0)) (bX BKz2.out) NBz6.out (by simp)); replace BKz3 := aM (KeepBut.blk hk (g' := gbz3) (o := .cells #[.int .i64 0, .slice none 0 0] 41 (0, 0)) (bX BKz3.out) NBz12.out (by simp)); replace HK := aM (KeepBut.trans (kX HK.out) hk (.inl rfl)); replace HB := aM (hb); replace HI0 := aM (hi); clear hb hk hi))
    go_meet
    case rel => exact ⟨_, (!t106), (t107), (t108), rS, H', ⟨by first | omega | exact Nat.le_refl _⟩, ⟨(bX BKz1.out)⟩, ⟨(bX BKz2.out)⟩, ⟨(bX BKz3.out)⟩, ⟨(i72 HI0.out)⟩, ⟨(kX HK.out)⟩, ⟨(hY HB.out (IsS72.ge HI0.out))⟩⟩
  case rest =>
    clear HC4
    try clear p2
    obtain ⟨kq, x20_3, x1001_3, x1002_3, rfl, HA, HJy1, BKz1, BKz2, BKz3, HI0, HK, HB⟩ := hcut
    cases kq with
    | zero => exact absurd HA.out (by simp [spec_l4DrawRes.j0])
    | succ kj3 =>
      have H := HA.out
      clear HA
      simp only [spec_l4DrawRes.j0] at H
      have HC37 := aM H
      clear H
      go_upto_if 20 with (fail)
      go_cut [] (fun wc => ∃ (kq : Nat) (x104000_36 : Int), Aside0 (spec_l4DrawRes.j1 kq s0_0 x1001_3 x1002_3 = some (r1, r2, r3, r4)) ∧ Aside0 (kq ≤ kj3) ∧ Aside0 (wc.heap[gbz1]? = some (.cells #[(.slice A1_0 l1_0.length c1_0), .int .i64 a1_1] 64 (0, 0))) ∧ Aside0 (wc.heap[gbz2]? = some (.cells #[.int .i64 a2_0, .int .i64 a2_1, .int .i64 a2_2] 23 (0, 0))) ∧ Aside0 (wc.heap[gbz3]? = some (.cells #[.int .i64 x104000_36, (.slice none 0 0)] 41 (0, 0))) ∧ Aside0 (IsS72 w0 wc g s0_0 x1001_3 x1002_3) ∧ Aside0 (KeepBut w wc g none) ∧ Aside0 (Below w0.heap.size w0 wc))
      case first =>
        have H := HC37.out
        clear HC37
        by_cases c38 : x20_3 = true
        case neg =>
          replace c38 := Bool.eq_false_iff.mpr c38
          subst c38
          rw [if_neg nft] at H
          have H' := aM H
          clear H
          go_wp2
          go_meet
          case rel => exact ⟨_, (0), H', ⟨by have := HJy1.out; first | omega | exact Nat.le_refl _⟩, ⟨(bX BKz1.out)⟩, ⟨(bX BKz2.out)⟩, ⟨(bX BKz3.out)⟩, ⟨(i72 HI0.out)⟩, ⟨(kX HK.out)⟩, ⟨(hY HB.out (IsS72.ge HI0.out))⟩⟩
        subst c38
        rw [if_pos rfl] at H
        replace H := bE H; obtain ⟨⟨t109, t112⟩, A39, H⟩ := H
        try dsimp only at H
        by_cases c40 : t112 = true
        case neg =>
          replace c40 := Bool.eq_false_iff.mpr c40
          subst c40
          rw [if_neg nft] at H
          have H' := aM H
          clear H
          have hnbw1 := NBz3.out
          have hncw1 := NBz4.out
          have hnbw2 := NBz7.out
          have hncw2 := NBz8.out
          have hnbw3 := NBz2.out
          have hncw3 := NBz1.out
          obtain ⟨hczw1, hczw2, hfzw1, hfzw2⟩ := cZ2 BKz1.out
          have hnbw4 := NBz9.out
          have hncw4 := NBz10.out
          have hnbw5 := NBz6.out
          have hncw5 := NBz5.out
          obtain ⟨hczw3, hczw4, hczw5, hfzw3, hfzw4, hfzw5⟩ := cZ3 BKz2.out
          go_wp2_with (first | (refine goesM 64 24 Tryd.func64 #[.agg #[.slice A1_0 l1_0.length c1_0, .int .i64 a1_1], .agg #[.int .i64 a2_0, .int .i64 a2_1, .int .i64 a2_2]] ?_; refine (spec_l4Done.calls kj3 _ _ l1_0 a1_1 a2_0 a2_1 a2_2 t109 false _ (by exact Kd.C_keep 0 HR1_0.out (kX HK.out) hf1_0) HC1_0.out A39.out).mono ?_; rintro e ww1 ⟨vw1, rfl, how1, hb⟩; refine ⟨_, rfl, ?_⟩; have HOw1 := aM (Kd.R_lower how1 (keep_size (w := w) (g := g) (row := none) (kX HK.out))); replace BKz1 := aB BKz1 hb; replace BKz2 := aB BKz2 hb; replace BKz3 := aB BKz3 hb; replace HK := aM (KeepBut.trans (kX HK.out) (KeepBut.of_below hb g none) (.inl rfl)); replace HB := aM (below_step (hY HB.out (IsS72.ge HI0.out)) hb); replace HI0 := aM (IsS72.below (i72 HI0.out) hb); clear hb how1))
          go_meet
          case rel => exact ⟨_, (0), H', ⟨by have := HJy1.out; first | omega | exact Nat.le_refl _⟩, ⟨(bX BKz1.out)⟩, ⟨(bX BKz2.out)⟩, ⟨(bX BKz3.out)⟩, ⟨(i72 HI0.out)⟩, ⟨(kX HK.out)⟩, ⟨(hY HB.out (IsS72.ge HI0.out))⟩⟩
        subst c40
        rw [if_pos rfl] at H
        simp only [Option.some.injEq, Prod.mk.injEq] at H
        obtain ⟨rfl, rfl, rfl, rfl⟩ := H
        have hnbw1 := NBz3.out
        have hncw1 := NBz4.out
        have hnbw2 := NBz7.out
        have hncw2 := NBz8.out
        have hnbw3 := NBz2.out
        have hncw3 := NBz1.out
        obtain ⟨hczw1, hczw2, hfzw1, hfzw2⟩ := cZ2 BKz1.out
        have hnbw4 := NBz9.out
        have hncw4 := NBz10.out
        have hnbw5 := NBz6.out
        have hncw5 := NBz5.out
        obtain ⟨hczw3, hczw4, hczw5, hfzw3, hfzw4, hfzw5⟩ := cZ3 BKz2.out
        go_wp2_with (first | (refine goesM 64 24 Tryd.func64 #[.agg #[.slice A1_0 l1_0.length c1_0, .int .i64 a1_1], .agg #[.int .i64 a2_0, .int .i64 a2_1, .int .i64 a2_2]] ?_; refine (spec_l4Done.calls kj3 _ _ l1_0 a1_1 a2_0 a2_1 a2_2 t109 true _ (by exact Kd.C_keep 0 HR1_0.out (kX HK.out) hf1_0) HC1_0.out A39.out).mono ?_; rintro e ww1 ⟨vw1, rfl, how1, hb⟩; refine ⟨_, rfl, ?_⟩; have HOw1 := aM (Kd.R_lower how1 (keep_size (w := w) (g := g) (row := none) (kX HK.out))); replace BKz1 := aB BKz1 hb; replace BKz2 := aB BKz2 hb; replace BKz3 := aB BKz3 hb; replace HK := aM (KeepBut.trans (kX HK.out) (KeepBut.of_below hb g none) (.inl rfl)); replace HB := aM (below_step (hY HB.out (IsS72.ge HI0.out)) hb); replace HI0 := aM (IsS72.below (i72 HI0.out) hb); clear hb how1; obtain ⟨Aow1, cow1, eow1⟩ := Kd.R_slice HOw1.out; subst eow1; have hnbw6 := NBz12.out; have hncw6 := NBz11.out; obtain ⟨hczw6, hczw7, hfzw6, hfzw7⟩ := cZ2 BKz3.out))
        refine bodyPost_ret (results_cell_row rfl _ _ gbz3 41 #[.int .i64 0, .slice Aow1 t109.length cow1] (0, 0) _ rfl (bP BKz3.out) Tryd.underlying41 rfl (by kernel_rfl)) rfl ?_
        exact ⟨_, rE, (rT (h := by exact Kd.R_mono (Kd.R_far (p := ⟨gbz3, 1, none⟩) (Kd.R_far (p := ⟨gbz3, 0, none⟩) (Kd.R_types HOw1.out BKz3.out (by decide)) (fun _ hk => hk.2) (.int .i64 0)) (fun _ hk => hk.2) (.slice Aow1 t109.length cow1)) (fun _ hk => trivial))), (i72 HI0.out), (hY HB.out (IsS72.ge HI0.out)), (kX HK.out)⟩
      case rest =>
        clear HC37
        try clear p2
        obtain ⟨kq, x104000_36, HA, HJw1, BKz1, BKz2, BKz3, HI0, HK, HB⟩ := hcut
        cases kq with
        | zero => exact absurd HA.out (by simp [spec_l4DrawRes.j1])
        | succ kj36 =>
          have H := HA.out
          clear HA
          simp only [spec_l4DrawRes.j1] at H
          replace H := bE H; obtain ⟨⟨t113, t114, t115⟩, A60, H⟩ := H
          try dsimp only at H
          replace H := bE H; obtain ⟨⟨t117, t118, t119⟩, A61, H⟩ := H
          try dsimp only at H
          go_wp2_with (first | (refine goesM 42 31 Tryd.func42 #[.pointer (some ⟨g, 0, none⟩), .int .i64 7] ?_; refine (spec_l1Below.calls g s0_0 x1001_3 x1002_3 7 t113 t114 t115 w0 _ (by repeat (first | (with_reducible first | exact HI0.out | apply IsS72.alloc | apply IsS72.drewN | apply IsS72.drew | apply IsS72.set_1 | apply IsS72.set_2 | refine IsS72.far ?_ NBz1.out _ | refine IsS72.far ?_ NBz5.out _ | refine IsS72.far ?_ NBz11.out _) | exact HI0.out)) (by repeat (first | (with_reducible first | exact HB.out | apply below_alloc | apply pw_below_drewN | apply below_drew1 | refine below_set ?_ (IsS72.ge HI0.out) | refine below_set ?_ GEz1.out | refine below_set ?_ GEz2.out | refine below_set ?_ GEz3.out) | exact HB.out)) A60.out).mono ?_; rintro e wv1 ⟨rfl, hi, hb, hk⟩; refine ⟨_, rfl, ?_⟩; replace BKz1 := aM (KeepBut.blk hk (g' := gbz1) (o := .cells #[.slice A1_0 l1_0.length c1_0, .int .i64 a1_1] 64 (0, 0)) (bX BKz1.out) NBz2.out (by simp)); replace BKz2 := aM (KeepBut.blk hk (g' := gbz2) (o := .cells #[.int .i64 a2_0, .int .i64 a2_1, .int .i64 a2_2] 23 (0, 0)) (bX BKz2.out) NBz6.out (by simp)); replace BKz3 := aM (KeepBut.blk hk (g' := gbz3) (o := .cells #[.int .i64 x104000_36, .slice none 0 0] 41 (0, 0)) (bX BKz3.out) NBz12.out (by simp)); replace HK := aM (KeepBut.trans (kX HK.out) hk (.inl rfl)); replace HB := aM (hb); replace HI0 := aM (hi); clear hb hk hi) | (refine boxE 9 #[.int .i64 0, .slice none 0 0] 41 ?_; intro gbv1 hg wv2 hbox hb; have BKv1 := aM (hbox); have GWv1 := aM ((by rw [hg]; exact (keep_size (w := w) (g := g) (row := none) (kX HK.out)) : w.heap.size ≤ gbv1)); have GEv1 := aM ((Nat.le_trans HW0.out (by rw [hg]; exact (keep_size (w := w) (g := g) (row := none) (kX HK.out)) : w.heap.size ≤ gbv1) : w0.heap.size ≤ gbv1)); have NBv1 := aL hg BKz1; have NBv2 := aR hg BKz1; have NBv3 := aL hg BKz2; have NBv4 := aR hg BKz2; have NBv5 := aL hg BKz3; have NBv6 := aR hg BKz3; have NBv7 := aM ((by rw [hg]; exact Nat.ne_of_lt (IsS72.lt (show IsS72 w0 _ g s0_0 t114 t115 from (i72 HI0.out))) : g ≠ gbv1)); have NBv8 := aM ((by rw [hg]; exact Nat.ne_of_gt (IsS72.lt (show IsS72 w0 _ g s0_0 t114 t115 from (i72 HI0.out))) : gbv1 ≠ g)); replace BKz1 := aB BKz1 hb; replace BKz2 := aB BKz2 hb; replace BKz3 := aB BKz3 hb; replace HK := aM (KeepBut.trans (kX HK.out) (KeepBut.of_below hb g none) (.inl rfl)); replace HB := aM (below_step (hY HB.out (IsS72.ge HI0.out)) hb); replace HI0 := aM (IsS72.below (i72 HI0.out) hb); clear hb hbox hg; have hnbv1 := NBv2.out; have hncv1 := NBv1.out; have hnbv2 := NBv4.out; have hncv2 := NBv3.out; have hnbv3 := NBv6.out; have hncv3 := NBv5.out; have hnbv4 := NBv8.out; have hncv4 := NBv7.out; obtain ⟨hczv1, hczv2, hfzv1, hfzv2⟩ := cZ2 BKv1.out; refine Stop.out ?_))
          refine ⟨?_⟩
          by_cases c62 : t117 = true
          case neg =>
            replace c62 := Bool.eq_false_iff.mpr c62
            subst c62
            rw [if_neg nft] at H
            simp only [Option.some.injEq, Prod.mk.injEq] at H
            obtain ⟨rfl, rfl, rfl, rfl⟩ := H
            go_wp2_with (first | (refine goesM 38 35 Tryd.func38 #[.pointer (some ⟨g, 0, none⟩), .int .i64 4] ?_; refine (spec_l1Once.calls g s0_0 t114 t115 4 false t118 t119 w0 _ (by repeat (first | (with_reducible first | exact HI0.out | apply IsS72.alloc | apply IsS72.drewN | apply IsS72.drew | apply IsS72.set_1 | apply IsS72.set_2 | refine IsS72.far ?_ NBz1.out _ | refine IsS72.far ?_ NBz5.out _ | refine IsS72.far ?_ NBz11.out _ | refine IsS72.far ?_ NBv7.out _) | exact HI0.out)) (by repeat (first | (with_reducible first | exact HB.out | apply below_alloc | apply pw_below_drewN | apply below_drew1 | refine below_set ?_ (IsS72.ge HI0.out) | refine below_set ?_ GEz1.out | refine below_set ?_ GEz2.out | refine below_set ?_ GEz3.out | refine below_set ?_ GEv1.out) | exact HB.out)) A61.out).mono ?_; rintro e wv3 ⟨rfl, hi, hb, hk⟩; refine ⟨_, rfl, ?_⟩; replace BKz1 := aM (KeepBut.blk hk (g' := gbz1) (o := .cells #[.slice A1_0 l1_0.length c1_0, .int .i64 a1_1] 64 (0, 0)) (bF BKz1.out) NBz2.out (by simp)); replace BKz2 := aM (KeepBut.blk hk (g' := gbz2) (o := .cells #[.int .i64 a2_0, .int .i64 a2_1, .int .i64 a2_2] 23 (0, 0)) (bF BKz2.out) NBz6.out (by simp)); replace BKz3 := aM (KeepBut.blk hk (g' := gbz3) (o := .cells #[.int .i64 x104000_36, .slice none 0 0] 41 (0, 0)) (bF BKz3.out) NBz12.out (by simp)); replace BKv1 := aM (KeepBut.blk hk (g' := gbv1) (o := .cells #[.int .i64 (wrap64 (t113 - 1)), .slice none 0 0] 41 (0, 0)) (bP BKv1.out) NBv8.out (by simp)); replace HK := aM (KeepBut.trans (kX HK.out) hk (.inl rfl)); replace HB := aM (hb); replace HI0 := aM (hi); clear hb hk hi; obtain ⟨hczv3, hczv4, hfzv3, hfzv4⟩ := cZ2 BKv1.out; have hnbv5 := NBz8.out; have hncv5 := NBz7.out; have hnbv6 := NBz10.out; have hncv6 := NBz9.out; have hnbv7 := NBz12.out; have hncv7 := NBz11.out; obtain ⟨hczv5, hczv6, hfzv5, hfzv6⟩ := cZ2 BKz3.out))
            refine bodyPost_ret (results_cell_row rfl _ _ gbz3 41 #[.int .i64 (wrap64 (t113 - 1)), .slice none 0 0] (0, 0) _ rfl (bP BKz3.out) Tryd.underlying41 rfl (by kernel_rfl)) rfl ?_
            exact ⟨(Value.slice none 0 0), rE, (by first | exact Kd.R_nil _ _ _ _ _ | exact Kd.S_nil _ _ _ _ _ | exact Kd.V_nil _ _ _ _ _ | exact Kd.N_nil _ _ _ _ _ | exact Kd.Q_nil _ _ _ _ _), (i72 HI0.out), (hY HB.out (IsS72.ge HI0.out)), (kX HK.out)⟩
          subst c62
          rw [if_pos rfl] at H
          replace H := bE H; obtain ⟨⟨t120, t121, t122⟩, A63, H⟩ := H
          try dsimp only at H
          obtain ⟨y123, hy123⟩ : ∃ y_ : List Int, y_ = (([t120] : List Int)) := ⟨_, rfl⟩
          replace H : (some (wrap64 (t113 - 1), y123, t121, t122)) = some (r1, r2, r3, r4) := yH H hy123
          have Ny123 := aM hy123
          clear hy123
          simp only [Option.some.injEq, Prod.mk.injEq] at H
          obtain ⟨rfl, rfl, rfl, rfl⟩ := H
          go_wp2_with (first | (refine goesM 38 35 Tryd.func38 #[.pointer (some ⟨g, 0, none⟩), .int .i64 4] ?_; refine (spec_l1Once.calls g s0_0 t114 t115 4 true t118 t119 w0 _ (by repeat (first | (with_reducible first | exact HI0.out | apply IsS72.alloc | apply IsS72.drewN | apply IsS72.drew | apply IsS72.set_1 | apply IsS72.set_2 | refine IsS72.far ?_ NBz1.out _ | refine IsS72.far ?_ NBz5.out _ | refine IsS72.far ?_ NBz11.out _ | refine IsS72.far ?_ NBv7.out _) | exact HI0.out)) (by repeat (first | (with_reducible first | exact HB.out | apply below_alloc | apply pw_below_drewN | apply below_drew1 | refine below_set ?_ (IsS72.ge HI0.out) | refine below_set ?_ GEz1.out | refine below_set ?_ GEz2.out | refine below_set ?_ GEz3.out | refine below_set ?_ GEv1.out) | exact HB.out)) A61.out).mono ?_; rintro e wv3 ⟨rfl, hi, hb, hk⟩; refine ⟨_, rfl, ?_⟩; replace BKz1 := aM (KeepBut.blk hk (g' := gbz1) (o := .cells #[.slice A1_0 l1_0.length c1_0, .int .i64 a1_1] 64 (0, 0)) (bF BKz1.out) NBz2.out (by simp)); replace BKz2 := aM (KeepBut.blk hk (g' := gbz2) (o := .cells #[.int .i64 a2_0, .int .i64 a2_1, .int .i64 a2_2] 23 (0, 0)) (bF BKz2.out) NBz6.out (by simp)); replace BKz3 := aM (KeepBut.blk hk (g' := gbz3) (o := .cells #[.int .i64 x104000_36, .slice none 0 0] 41 (0, 0)) (bF BKz3.out) NBz12.out (by simp)); replace BKv1 := aM (KeepBut.blk hk (g' := gbv1) (o := .cells #[.int .i64 (wrap64 (t113 - 1)), .slice none 0 0] 41 (0, 0)) (bP BKv1.out) NBv8.out (by simp)); replace HK := aM (KeepBut.trans (kX HK.out) hk (.inl rfl)); replace HB := aM (hb); replace HI0 := aM (hi); clear hb hk hi) | (refine goesM 42 37 Tryd.func42 #[.pointer (some ⟨g, 0, none⟩), .int .i64 4] ?_; refine (spec_l1Below.calls g s0_0 t118 t119 4 t120 t121 t122 w0 _ (by repeat (first | (with_reducible first | exact HI0.out | apply IsS72.alloc | apply IsS72.drewN | apply IsS72.drew | apply IsS72.set_1 | apply IsS72.set_2 | refine IsS72.far ?_ NBz1.out _ | refine IsS72.far ?_ NBz5.out _ | refine IsS72.far ?_ NBz11.out _ | refine IsS72.far ?_ NBv7.out _) | exact HI0.out)) (by repeat (first | (with_reducible first | exact HB.out | apply below_alloc | apply pw_below_drewN | apply below_drew1 | refine below_set ?_ (IsS72.ge HI0.out) | refine below_set ?_ GEz1.out | refine below_set ?_ GEz2.out | refine below_set ?_ GEz3.out | refine below_set ?_ GEv1.out) | exact HB.out)) A63.out).mono ?_; rintro e wv4 ⟨rfl, hi, hb, hk⟩; refine ⟨_, rfl, ?_⟩; replace BKz1 := aM (KeepBut.blk hk (g' := gbz1) (o := .cells #[.slice A1_0 l1_0.length c1_0, .int .i64 a1_1] 64 (0, 0)) (bX BKz1.out) NBz2.out (by simp)); replace BKz2 := aM (KeepBut.blk hk (g' := gbz2) (o := .cells #[.int .i64 a2_0, .int .i64 a2_1, .int .i64 a2_2] 23 (0, 0)) (bX BKz2.out) NBz6.out (by simp)); replace BKz3 := aM (KeepBut.blk hk (g' := gbz3) (o := .cells #[.int .i64 x104000_36, .slice none 0 0] 41 (0, 0)) (bX BKz3.out) NBz12.out (by simp)); replace BKv1 := aM (KeepBut.blk hk (g' := gbv1) (o := .cells #[.int .i64 (wrap64 (t113 - 1)), .slice none 0 0] 41 (0, 0)) (bX BKv1.out) NBv8.out (by simp)); replace HK := aM (KeepBut.trans (kX HK.out) hk (.inl rfl)); replace HB := aM (hb); replace HI0 := aM (hi); clear hb hk hi) | ((with_reducible refine gate_dst (N := 38) rfl ?_); refine Kd.R_lit (Kd.int .i64) _ 3 ?hg (N := 38) ?hd (xs := ([t120] : List Int)) (inner := [.int .i64 t120]) (ok := fun _ => True) (okp := fun _ => True) ?hr ?hp (fun _ hk => hk) trivial (Below.refl _ _) (Nat.le_refl _) (by simp) ?_; (case hd => rfl); (case hg => rfl); (case hr => first | (go_simp; done) | (go_simp; rfl)); (case hp => exact (Reps.one (show Kd.M (Kd.int .i64) _ _ _ t120 [.int .i64 t120] from rfl) (Reps.none _ _))); intro vv1 wv5 hov1 hb hg_ hnew_; clear hg_ hnew_; (first | rw [← Ny123.out] at hov1 | (simp only [Int.reduceToNat] at hov1; rw [← Ny123.out] at hov1)); have HOv1 := aM (Kd.R_lower hov1 (keep_size (w := w) (g := g) (row := none) (kX HK.out))); replace BKz1 := aB BKz1 hb; replace BKz2 := aB BKz2 hb; replace BKz3 := aB BKz3 hb; replace BKv1 := aB BKv1 hb; replace HK := aM (KeepBut.trans (kX HK.out) (KeepBut.of_below hb g none) (.inl rfl)); replace HB := aM (below_step (hY HB.out (IsS72.ge HI0.out)) hb); replace HI0 := aM (IsS72.below (i72 HI0.out) hb); clear hb hov1; obtain ⟨Aov1, cov1, eov1⟩ := Kd.R_slice HOv1.out; subst eov1; obtain ⟨hczv3, hczv4, hfzv3, hfzv4⟩ := cZ2 BKv1.out; have hnbv5 := NBz8.out; have hncv5 := NBz7.out; have hnbv6 := NBz10.out; have hncv6 := NBz9.out; have hnbv7 := NBz12.out; have hncv7 := NBz11.out; obtain ⟨hczv5, hczv6, hfzv5, hfzv6⟩ := cZ2 BKz3.out))
          refine bodyPost_ret (results_cell_row rfl _ _ gbz3 41 #[.int .i64 (wrap64 (t113 - 1)), .slice Aov1 y123.length cov1] (0, 0) _ rfl (bP BKz3.out) Tryd.underlying41 rfl (by kernel_rfl)) rfl ?_
          exact ⟨_, rE, (rT (h := by exact Kd.R_mono (Kd.R_far (p := ⟨gbz3, 1, none⟩) (Kd.R_far (p := ⟨gbz3, 0, none⟩) (Kd.R_far (p := ⟨gbv1, 1, none⟩) (Kd.R_types (Kd.R_types HOv1.out BKv1.out (by decide)) BKz3.out (by decide)) (fun _ hk => hk.1.2) (.slice Aov1 y123.length cov1)) (fun _ hk => hk.2) (.int .i64 (wrap64 (t113 - 1)))) (fun _ hk => hk.2) (.slice Aov1 y123.length cov1)) (fun _ hk => trivial))), (i72 HI0.out), (hY HB.out (IsS72.ge HI0.out)), (kX HK.out)⟩
def spec_DrawResText.f (k : Nat) (l0 : List Int) : Option (Int × List Int) := (spec_l1New.f k l0).bind fun bt102 => ((spec_l3DrawRight.f k bt102.1 bt102.2.1 bt102.2.2).bind fun bt106 => ((spec_l4DrawRight.f k bt102.1 bt106.2.2.1 bt106.2.2.2).bind fun bt113 => ((spec_l4DrawRes.f k bt102.1 bt113.2.2.2.1 bt113.2.2.2.2 bt106.1 bt106.2.1 bt113.1 bt113.2.1 bt113.2.2.1).bind fun bt118 => (some (bt118.1, bt118.2.1)))))
set_option maxHeartbeats 8000000 in
set_option maxRecDepth 100000 in
theorem spec_DrawResText.calls (k : Nat) (A0 : Option Addr) (c0 : Nat) (l0 : List Int) (r1 : Int) (r2 : List Int) (w : World) (hr0 : Kd.C (Kd.int .u8) w A0 l0.length l0) (hc0 : l0.length ≤ c0) (h : spec_DrawResText.f k l0 = some (r1, r2)) :
    Calls Tryd.prog 20 #[.slice A0 l0.length c0] w fun e w' => ∃ v1_ : Value, e = .returned (.agg #[.int .i64 r1, v1_]) ∧ Kd.R (Kd.int .i64) 3 w' w.heap.size (fun _ => True) v1_ r2 ∧ Below w.heap.size w w' := by
  have hu41 := Tryd.underlying41
  have hu64 := Tryd.underlying64
  have HR0 := aM hr0
  have HC0 := aM hc0
  clear hr0 hc0
  have HB := aM (Below.refl w.heap.size w)
  have H := h
  unfold spec_DrawResText.f at H
  clear h
  replace H := bE H; obtain ⟨⟨t102, t103, t104⟩, A2, H⟩ := H
  try dsimp only at H
  replace H := bE H; obtain ⟨⟨t106, t109, t110, t111⟩, A3, H⟩ := H
  try dsimp only at H
  replace H := bE H; obtain ⟨⟨t113, t114, t115, t116, t117⟩, A4, H⟩ := H
  try dsimp only at H
  replace H := bE H; obtain ⟨⟨t118, t119, t122, t123⟩, A5, H⟩ := H
  try dsimp only at H
  simp only [Option.some.injEq, Prod.mk.injEq] at H
  obtain ⟨rfl, rfl⟩ := H
  go_enter Tryd.func20, Tryd.ntmps20
  try go_wp2_with (first | (refine boxE 2 #[.int .i64 0, .slice none 0 0] 41 ?_; intro gbz1 hg wz1 hbox hb; have BKz1 := aM (hbox); have GWz1 := aG hg HB; have GEz1 := aG hg HB; replace HB := aS HB hb; clear hb hbox hg) | (refine goesM 36 6 Tryd.func36 #[.slice A0 l0.length c0] ?_; refine (spec_l1New.calls k _ _ l0 t102 t103 t104 w _ (by repeat (first | (with_reducible first | exact HB.out | apply below_alloc | apply pw_below_drewN | apply below_drew1 | refine below_set ?_ GEz1.out) | exact HB.out)) HR0.out HC0.out A2.out).mono ?_; rintro e wz2 ⟨gz1, rfl, hi, hb, hbz1⟩; refine ⟨_, rfl, ?_⟩; have HIz1 := aM (hi); have NBz1 := aM (IsS72.ne_blk hi (blk_below (g := gbz1) (o := .cells #[.int .i64 0, .slice none 0 0] 41 (0, 0)) (bX BKz1.out) hbz1) (by decide)); have NBz2 := aM (Ne.symm (IsS72.ne_blk hi (blk_below (g := gbz1) (o := .cells #[.int .i64 0, .slice none 0 0] 41 (0, 0)) (bX BKz1.out) hbz1) (by decide))); replace BKz1 := aM (blk_below (g := gbz1) (o := .cells #[.int .i64 0, .slice none 0 0] 41 (0, 0)) (bX BKz1.out) hbz1); replace HB := aM (hb); clear hb hbz1 hi) | (refine goesM 43 8 Tryd.func43 #[.pointer (some ⟨gz1, 0, none⟩)] ?_; refine (spec_l3DrawRight.calls k gz1 t102 t103 t104 t106 t109 t110 t111 w _ (by repeat (first | (with_reducible first | exact HIz1.out | apply IsS72.alloc | apply IsS72.drewN | apply IsS72.drew | apply IsS72.set_1 | apply IsS72.set_2 | refine IsS72.far ?_ NBz1.out _) | exact HIz1.out)) (by repeat (first | (with_reducible first | exact HB.out | apply below_alloc | apply pw_below_drewN | apply below_drew1 | refine below_set ?_ (IsS72.ge HIz1.out) | refine below_set ?_ GEz1.out) | exact HB.out)) A3.out).mono ?_; rintro e wz3 ⟨vz1, rfl, hoz1, hi, hb, hk⟩; refine ⟨_, rfl, ?_⟩; have HOz1 := aM (Kd.R_lower hoz1 (below_size (hY HB.out (IsS72.ge HIz1.out)))); replace BKz1 := aM (KeepBut.blk hk (g' := gbz1) (o := .cells #[.int .i64 0, .slice none 0 0] 41 (0, 0)) (bX BKz1.out) NBz2.out (by simp)); replace HB := aM (hb); replace HIz1 := aM (hi); clear hb hk hi hoz1) | (refine boxE 4 #[.slice none 0 0, .int .i64 0] 64 ?_; intro gbz2 hg wz4 hbox hb; have BKz2 := aM (hbox); have GWz2 := aM (gX' hg (hY HB.out (IsS72.ge HIz1.out))); have GEz2 := aM (gX' hg (hY HB.out (IsS72.ge HIz1.out))); have NBz3 := aL hg BKz1; have NBz4 := aR hg BKz1; have NBz5 := aM ((by rw [hg]; exact Nat.ne_of_lt (IsS72.lt (show IsS72 w _ gz1 t102 t110 t111 from (i72 HIz1.out))) : gz1 ≠ gbz2)); have NBz6 := aM ((by rw [hg]; exact Nat.ne_of_gt (IsS72.lt (show IsS72 w _ gz1 t102 t110 t111 from (i72 HIz1.out))) : gbz2 ≠ gz1)); replace HOz1 := aQ HOz1 hb; replace BKz1 := aB BKz1 hb; replace HB := aM (below_step (hY HB.out (IsS72.ge HIz1.out)) hb); replace HIz1 := aM (IsS72.below (i72 HIz1.out) hb); clear hb hbox hg; obtain ⟨Aoz1, coz1, eoz1⟩ := Kd.R_slice HOz1.out; subst eoz1; have hnbz1 := NBz4.out; have hncz1 := NBz3.out; have hnbz2 := NBz6.out; have hncz2 := NBz5.out; obtain ⟨hczz1, hczz2, hfzz1, hfzz2⟩ := cZ2 BKz2.out))
  have nz1 : Aside0 (Kd.R (Kd.int .i64) 3 ((wz4.setCell ⟨gbz2, 0, none⟩ (.slice Aoz1 t106.length coz1)).setCell ⟨gbz2, 1, none⟩ (.int .i64 t109)) w.heap.size (fun _ => True) (.slice Aoz1 t106.length coz1) t106) := ⟨(rT (h := by exact Kd.R_mono (Kd.R_far (p := ⟨gbz2, 1, none⟩) (Kd.R_far (p := ⟨gbz2, 0, none⟩) (Kd.R_types HOz1.out BKz2.out (by decide)) (fun _ hk => hk.2) (.slice Aoz1 t106.length coz1)) (fun _ hk => hk.2) (.int .i64 t109)) (fun _ hk => trivial)))⟩
  have nz2 : Aside0 (((wz4.setCell ⟨gbz2, 0, none⟩ (.slice Aoz1 t106.length coz1)).setCell ⟨gbz2, 1, none⟩ (.int .i64 t109)).heap[gbz1]? = some (.cells #[.int .i64 0, .slice none 0 0] 41 (0, 0))) := ⟨(bF BKz1.out)⟩
  have nz3 : Aside0 (((wz4.setCell ⟨gbz2, 0, none⟩ (.slice Aoz1 t106.length coz1)).setCell ⟨gbz2, 1, none⟩ (.int .i64 t109)).heap[gbz2]? = some (.cells #[.slice Aoz1 t106.length coz1, .int .i64 t109] 64 (0, 0))) := ⟨(bP BKz2.out)⟩
  have nz4 : Aside0 (IsS72 w ((wz4.setCell ⟨gbz2, 0, none⟩ (.slice Aoz1 t106.length coz1)).setCell ⟨gbz2, 1, none⟩ (.int .i64 t109)) gz1 t102 t110 t111) := ⟨(i72 HIz1.out)⟩
  have nz5 : Aside0 (Below w.heap.size w ((wz4.setCell ⟨gbz2, 0, none⟩ (.slice Aoz1 t106.length coz1)).setCell ⟨gbz2, 1, none⟩ (.int .i64 t109))) := ⟨(hY HB.out (IsS72.ge HIz1.out))⟩
  (try clear HOz1)
  (try clear BKz1)
  (try clear BKz2)
  (try clear HIz1)
  (try clear HB)
  generalize ((wz4.setCell ⟨gbz2, 0, none⟩ (.slice Aoz1 t106.length coz1)).setCell ⟨gbz2, 1, none⟩ (.int .i64 t109)) = wz5 at nz1 nz2 nz3 nz4 nz5 ⊢
  have HOz1 := nz1
  have BKz1 := nz2
  have BKz2 := nz3
  have HIz1 := nz4
  have HB := nz5
  clear nz1 nz2 nz3 nz4 nz5
  replace HOz1 := aM (Kd.R_drew HOz1.out)
  replace BKz1 := aM (blk_drew BKz1.out)
  replace BKz2 := aM (blk_drew BKz2.out)
  replace HIz1 := aM (IsS72.drew HIz1.out)
  replace HB := aM (below_drew1 HB.out)
  refine start_ (n := 6) (S := fun w' => w'.cell? ⟨gbz2, 0, none⟩ = some (.slice Aoz1 t106.length coz1) ∧ w'.cell? ⟨gbz2, 1, none⟩ = some (.int .i64 t109)) (ds := []) (bm 6 0) (by kernel_rfl) rfl (by kernel_rfl) ⟨cK BKz2.out 0, cK BKz2.out 1⟩ (fun hHeld => ?_)
  generalize wz5.drew = wz6 at HOz1 BKz1 BKz2 HIz1 HB hHeld ⊢
  refine pK 0 9 (bm 6 1) ?_
  refine pK 2 11 (bm 6 5) ?_
  refine tK 1 10 (bm 6 7) hHeld ?_
  refine oK 3 (some 12) (bm 6 15) (fun K hK => ?_)
  refine goesN Tryd.func45 #[.pointer (some ⟨gz1, 0, none⟩)] ?_
  with_reducible refine (spec_l4DrawRight.calls k gz1 t102 t110 t111 t113 t114 t115 t116 t117 w _ ?side1 ?side2 A4.out).mono ?_
  (case side1 => repeat (first | (with_reducible first | exact HIz1.out | apply IsS72.alloc | apply IsS72.drewN | apply IsS72.drew | apply IsS72.set_1 | apply IsS72.set_2 | refine IsS72.far ?_ NBz1.out _ | refine IsS72.far ?_ NBz5.out _) | exact HIz1.out))
  (case side2 => repeat (first | (with_reducible first | exact HB.out | apply below_alloc | apply pw_below_drewN | apply below_drew1 | refine below_set ?_ (IsS72.ge HIz1.out) | refine below_set ?_ GEz1.out | refine below_set ?_ GEz2.out) | exact HB.out))
  rintro e wz7 ⟨rfl, hi, hb, hk⟩
  refine ⟨_, rfl, ?_⟩
  replace BKz1 := aM (KeepBut.blk hk (g' := gbz1) (o := .cells #[.int .i64 0, .slice none 0 0] 41 (0, 0)) (bX BKz1.out) NBz2.out (by simp))
  replace HOz1 := aM (Kd.R_mono (Kd.R_keep (IsS72.apart (show IsS72 w _ gz1 t102 t110 t111 from (i72 HIz1.out)) (rX HOz1.out) (by decide)) hk (fun _ h => h.2)) (fun _ h => h.1))
  replace BKz2 := aM (KeepBut.blk hk (g' := gbz2) (o := .cells #[.slice Aoz1 t106.length coz1, .int .i64 t109] 64 (0, 0)) (bX BKz2.out) NBz6.out (by simp))
  replace HB := aM (hb)
  replace HIz1 := aM (hi)
  (try clear hb)
  (try clear hbz1)
  (try clear hk)
  (try clear hi)
  refine hK.out _ _ ⟨cK BKz2.out 0, cK BKz2.out 1⟩ (fun hHeld => ?_)
  clear hK K
  refine nZ 12 ?_
  refine oK 4 (some 13) (bm 6 31) (fun K hK => ?_)
  refine goesN Tryd.func44 #[.pointer (some ⟨gz1, 0, none⟩), .agg #[.slice Aoz1 t106.length coz1, .int .i64 t109], .agg #[.int .i64 t113, .int .i64 t114, .int .i64 t115]] ?_
  with_reducible refine (spec_l4DrawRes.calls k gz1 t102 t116 t117 _ _ t106 t109 t113 t114 t115 t118 t119 t122 t123 w _ ?side1 ?side2 ?side3 ?side4 ?side5 A5.out).mono ?_
  (case side1 => repeat (first | (with_reducible first | exact HIz1.out | apply IsS72.alloc | apply IsS72.drewN | apply IsS72.drew | apply IsS72.set_1 | apply IsS72.set_2 | refine IsS72.far ?_ NBz1.out _ | refine IsS72.far ?_ NBz5.out _) | exact HIz1.out))
  (case side2 => repeat (first | (with_reducible first | exact HB.out | apply below_alloc | apply pw_below_drewN | apply below_drew1 | refine below_set ?_ (IsS72.ge HIz1.out) | refine below_set ?_ GEz1.out | refine below_set ?_ GEz2.out) | exact HB.out))
  (case side3 => repeat (first | exact (Kd.R_reads' HOz1.out).2.2 | (with_reducible refine Kd.C_alloc ?_ _) | (with_reducible refine Kd.C_drewN ?_ _) | (with_reducible refine Kd.C_drew ?_)))
  (case side4 => exact (Kd.R_reads' HOz1.out).2.1)
  (case side5 => exact far_slice (IsS72.own_ne HIz1.out HOz1.out (by decide)))
  rintro e wz8 ⟨vz2, rfl, hoz1, hi, hb, hk⟩
  refine ⟨_, rfl, ?_⟩
  have HOz2 := aM (Kd.R_lower (Kd.R_new' hoz1 (Kd.R_lt (rX HOz1.out))) (below_size (hY HB.out (IsS72.ge HIz1.out))))
  replace BKz1 := aM (KeepBut.blk hk (g' := gbz1) (o := .cells #[.int .i64 0, .slice none 0 0] 41 (0, 0)) (bX BKz1.out) NBz2.out (by simp))
  replace HOz1 := aM (Kd.R_mono (Kd.R_told (Kd.R_oldK (IsS72.apart (show IsS72 w _ gz1 t102 t116 t117 from (i72 HIz1.out)) (rX HOz1.out) (by decide)) hk) (Kd.R_base hoz1)) (fun _ h_ => h_.1))
  replace BKz2 := aM (KeepBut.blk hk (g' := gbz2) (o := .cells #[.slice Aoz1 t106.length coz1, .int .i64 t109] 64 (0, 0)) (bX BKz2.out) NBz6.out (by simp))
  replace HB := aM (hb)
  replace HIz1 := aM (hi)
  (try clear hb)
  (try clear hbz1)
  (try clear hk)
  (try clear hi)
  (try clear hoz1)
  obtain ⟨Aoz2, coz2, eoz2⟩ := Kd.R_slice HOz2.out
  (first | subst eoz2 | (injection eoz2 with f1_ f2_ f3_; have fz1 := f1_.symm; have fz2 := f3_.symm; clear f1_ f2_ f3_; subst fz1; subst fz2))
  refine hK.out _ _ ⟨cK BKz2.out 0, cK BKz2.out 1⟩ (fun hHeld => ?_)
  clear hK K
  refine nZ 13 ?_
  refine oK 5 none (bm 6 63) (fun K hK => ?_)
  have hsz1 : wz8.cell? ⟨gbz1, 0, none⟩ = some (.int .i64 0) := (blk_cell BKz1.out 0).trans rfl
  have hfsz1 := blk_frozen BKz1.out 0
  have hnsz1 := NBz4.out
  have hmsz1 := NBz3.out
  have hsz2 : wz8.cell? ⟨gbz1, 1, none⟩ = some (.slice none 0 0) := (blk_cell BKz1.out 1).trans rfl
  have hfsz2 := blk_frozen BKz1.out 1
  have hnsz2 := NBz4.out
  have hmsz2 := NBz3.out
  refine skip_ (w1 := ?_) (by rfl) rfl ?_ ?_
  rotate_left
  · go_simp
    rfl
  refine hK.out _ _ ⟨(fA NBz4.out hHeld.1), (fA NBz4.out hHeld.2)⟩ (fun hHeld => ?_)
  clear hK K
  refine done_ (by kernel_rfl) ?_
  try go_wp2
  refine bodyPost_ret (results_cell_row rfl _ _ gbz1 41 #[.int .i64 t118, .slice Aoz2 t119.length coz2] (0, 0) _ rfl (bP BKz1.out) Tryd.underlying41 rfl (by kernel_rfl)) rfl ?_
  exact ⟨_, rE, (rT (h := by exact Kd.R_mono (Kd.R_far (p := ⟨gbz1, 1, none⟩) (Kd.R_far (p := ⟨gbz1, 0, none⟩) (Kd.R_types HOz2.out BKz1.out (by decide)) (fun _ hk => hk.2) (.int .i64 t118)) (fun _ hk => hk.2) (.slice Aoz2 t119.length coz2)) (fun _ hk => trivial))), (hY HB.out (IsS72.ge HIz1.out))⟩
def strings_Join.f (l0 : List ByteArray) (a1 : ByteArray) : Option (ByteArray) := if (Lib.join (l0.map (·.data.toList)) a1.data.toList).length ≤ 140737488355328 ∧ l0.length ≤ 140737488355328 then some ⟨(Lib.join (l0.map (·.data.toList)) a1.data.toList).toArray⟩ else none
theorem strings_Join.calls (A0 : Option Addr) (c0 : Nat) (l0 : List ByteArray) (a1 : ByteArray) (r : ByteArray) (w : World) (hr0 : Kd.C Kd.string w A0 l0.length l0) (hc0 : l0.length ≤ c0) (h : strings_Join.f l0 a1 = some r) :
    Calls Tryd.prog 48 #[.slice A0 l0.length c0, .string a1] w fun e w' => e = .returned (.string r) ∧ Below w.heap.size w w' := by
  unfold strings_Join.f at h
  split at h
  · rename_i hlen
    obtain rfl := Option.some.inj h
    cases l0 with
    | nil => exact (Go.Proofs.Tryd.strings_Join_none A0 c0 a1 w).mono fun e w' ⟨he, hw⟩ => ⟨he, hw ▸ Below.refl _ _⟩
    | cons x xs =>
      obtain ⟨b, o, rfl, hb, hcell⟩ := Go.Proofs.YtafcfhgdblefgaaDoorZ.C_plain hr0 (by simp)
      exact (Go.Proofs.Tryd.strings_Join b o c0 (x :: xs) a1 w hcell hb hlen.2 hc0 hlen.1).mono fun e w' ⟨he, hb⟩ => ⟨he, hb⟩
  simp at h
def impl_ProgText.l0 : Nat → List ByteArray → List (S23) → Int → Int → Option (ByteArray)
  | 0, _, _, _, _ => none
  | k + 1, x3, x7, x8, x9 => if x9 < x8 then (if 0 ≤ x9 then (if x9 < (x7.length : Int) then ((impl_OpText.f k ((rd_T23 x7 x9).f0) ((rd_T23 x7 x9).f1) ((rd_T23 x7 x9).f2)).bind fun t106 => (if x3.length < 8796093022208 then (impl_ProgText.l0 k (x3 ++ [t106]) x7 x8 (wrap64 (x9 + 1))) else (none))) else (none)) else (none)) else ((strings_Join.f x3 (⟨#[59]⟩ : ByteArray)).bind fun t110 => (some t110))
def impl_ProgText.f (k : Nat) (l0 : List (S23)) : Option (ByteArray) := impl_ProgText.l0 k (([] : List ByteArray)) l0 (l0.length : Int) 0
set_option maxHeartbeats 8000000 in
set_option maxRecDepth 100000 in
theorem impl_ProgText.calls (k : Nat) (A0 : Option Addr) (c0 : Nat) (l0 : List (S23)) (r : ByteArray) (w : World) (hr0 : Kd.C k23 w A0 l0.length l0) (hc0 : l0.length ≤ c0) (h : impl_ProgText.f k l0 = some r) :
    Calls Tryd.prog 22 #[.slice A0 l0.length c0] w fun e w' => e = .returned (.string r) ∧ Below w.heap.size w w' := by
  have hu23 := Tryd.underlying23
  have HR0 := aM hr0
  have HC0 := aM hc0
  clear hr0 hc0
  have HB := aM (Below.refl w.heap.size w)
  have H := h
  unfold impl_ProgText.f at H
  clear h
  obtain ⟨y101, hy101⟩ : ∃ y_ : List ByteArray, y_ = (([] : List ByteArray)) := ⟨_, rfl⟩
  replace H : (impl_ProgText.l0 k y101 l0 (l0.length : Int) 0) = some r := yH H hy101
  have Ny101 := aM hy101
  clear hy101
  have H' := aM H
  clear H
  go_enter Tryd.func22, Tryd.ntmps22
  go_wp2_with (first | ((with_reducible refine gate_dst (N := 6) rfl ?_); refine Kd.R_lit Kd.string _ 9 ?hg (N := 6) ?hd (xs := ([] : List ByteArray)) (inner := []) (ok := fun _ => True) (okp := fun _ => True) ?hr ?hp (fun _ hk => hk) trivial (Below.refl _ _) (Nat.le_refl _) (by simp) ?_; (case hd => rfl); (case hg => rfl); (case hr => first | (go_simp; done) | (go_simp; rfl)); (case hp => exact (Reps.none _ _)); intro vz1 wz1 hoz1 hb hg_ hnew_; clear hg_ hnew_; (first | rw [← Ny101.out] at hoz1 | (simp only [Int.reduceToNat] at hoz1; rw [← Ny101.out] at hoz1)); have HOz1 := aM (Kd.R_lower hoz1 (below_size (hX HB.out))); replace HB := aS HB hb; clear hb hoz1))
  go_loopg [3, 9] k (fun kq v3 v9 w' => ∃ (x3_1 : List ByteArray) (x9_1 : Int), v9 = .int .i64 x9_1 ∧ Aside0 (impl_ProgText.l0 kq x3_1 l0 (l0.length : Int) x9_1 = some r) ∧ Aside0 (kq ≤ k) ∧ Aside0 (Kd.R Kd.string 9 w' w.heap.size (fun _ => True) v3 x3_1) ∧ Aside0 (Below w.heap.size w w'))
  case atStart => exact ⟨(y101), (0), rS, H', ⟨Nat.le_refl _⟩, ⟨(rX HOz1.out)⟩, ⟨(hX HB.out)⟩⟩
  case round =>
    clear H'
    try clear p2
    obtain ⟨x3_1, x9_1, rfl, HA, HKy1, HO_y1, HB⟩ := hrel
    cases gk with
    | zero => exact absurd HA.out (by simp [impl_ProgText.l0])
    | succ k1 =>
      have H := HA.out
      clear HA
      simp only [impl_ProgText.l0] at H
      by_cases c4 : x9_1 < (l0.length : Int)
      case neg =>
        rw [if_neg c4] at H
        have c4b0 := decide_eq_false c4
        clear c4
        replace H := bE H; obtain ⟨t110, A13, H⟩ := H
        obtain rfl := sI H
        obtain ⟨Aox1, cox1, eox1⟩ := Kd.R_slice HO_y1.out
        subst eox1
        go_wp2_with (first | (refine goesM 48 20 Tryd.func48 #[.slice Aox1 x3_1.length cox1, .string (⟨#[59]⟩ : ByteArray)] ?_; refine (strings_Join.calls _ _ _ _ _ _ (cX (Kd.R_reads' HO_y1.out).2.2) ((Kd.R_reads' HO_y1.out).2.1) A13.out).mono ?_; rintro e wx1 ⟨rfl, hb⟩; refine ⟨_, rfl, ?_⟩; replace HO_y1 := aQ HO_y1 hb; replace HB := aS HB hb; clear hb))
        go_ret
        exact ⟨rE, (hX HB.out)⟩
      rw [if_pos c4] at H
      have c4b0 := decide_eq_true c4
      clear c4
      replace H := ifP H; obtain ⟨c5, H⟩ := H
      have c5b0 := decide_eq_true c5
      clear c5
      replace H := ifP H; obtain ⟨c6, H⟩ := H
      have c6b0 := decide_eq_true c6
      clear c6
      replace H := bE H; obtain ⟨t106, A7, H⟩ := H
      replace H := ifP H; obtain ⟨c8, H⟩ := H
      have LMc8 := aM c8
      clear c8
      obtain ⟨y107, hy107⟩ : ∃ y_ : List ByteArray, y_ = (x3_1 ++ [t106]) := ⟨_, rfl⟩
      replace H : (impl_ProgText.l0 k1 y107 l0 (l0.length : Int) (wrap64 (x9_1 + 1))) = some r := yH H hy107
      have Ny107 := aM hy107
      clear hy107
      have H' := aM H
      clear H
      obtain ⟨adx1, ex1, px1, qx1, hxx1⟩ := at_T23c HR0 HB x9_1
      cases ex1
      go_wp2_with (first | (refine boxE 5 #[.int .i64 0, .int .i64 0, .int .i64 0] 23 ?_; intro gbx1 hg wx1 hbox hb; have BKx1 := aM (hbox); have GWx1 := aG hg HB; have GEx1 := aG hg HB; replace HO_y1 := aQ HO_y1 hb; replace HB := aS HB hb; clear hb hbox hg; obtain ⟨hczx1, hczx2, hczx3, hfzx1, hfzx2, hfzx3⟩ := cZ3 BKx1.out) | (refine goesM 16 15 Tryd.func16 #[.agg #[.int .i64 ((rd_T23 l0 x9_1).f0), .int .i64 ((rd_T23 l0 x9_1).f1), .int .i64 ((rd_T23 l0 x9_1).f2)]] ?_; refine (impl_OpText.calls _ _ _ _ _ _ A7.out).mono ?_; rintro e wx2 ⟨rfl, hb⟩; refine ⟨_, rfl, ?_⟩; replace HO_y1 := aM (Kd.R_below (rF HO_y1.out BKx1.out) hb); replace BKx1 := aM (blk_below (g := gbx1) (o := .cells #[.int .i64 ((rd_T23 l0 x9_1).f0), .int .i64 ((rd_T23 l0 x9_1).f1), .int .i64 ((rd_T23 l0 x9_1).f2)] 23 (0, 0)) (bP BKx1.out) hb); replace HB := aS HB hb; clear hb) | ((with_reducible refine gate_builtin (b := .append) (xs := #[.tmp 13, .tmp 16]) rfl ?_); at_builtin; refine Kd.R_append Kd.string (w0 := w) w.heap.size rfl (.tmp 13) (.tmp 16) 46 9 (.string ⟨#[]⟩) 16 rfl Tryd.underlying46 info9 rfl (by decide) (by omega) u3 x3_1 t106 [.string t106] (fun _ => True) (fun _ => False) rfl rfl ?aP (fun _ hk => hk.elim) ?aF ?aO ?aB ?aS ?aL ?_; (case aP => exact rfl); (case aB => exact (hX HB.out)); (case aF => exact (fun _ _ => trivial)); (case aO => exact (rX HO_y1.out)); (case aS => exact (below_size (hX HB.out))); (case aL => have := LMc8.out; omega); intro vx1 wx3 ho hb hg hat; rw [← Ny107.out] at ho; have HOx1 := aM (ho); replace BKx1 := aM (blk_grown (g := gbx1) (o := .cells #[.int .i64 ((rd_T23 l0 x9_1).f0), .int .i64 ((rd_T23 l0 x9_1).f1), .int .i64 ((rd_T23 l0 x9_1).f2)] 23 (0, 0)) (bX BKx1.out) hg (Kd.R_ne HO_y1.out BKx1.out (by decide))); replace HB := aM (hb); clear HO_y1; clear ho hb hg hat))
      go_roundg k1
      case measure => have := HKy1.out; omega
      case rel => exact ⟨(y107), (wrap64 (x9_1 + 1)), rS, H', ⟨by have := HKy1.out; omega⟩, ⟨(rX HOx1.out)⟩, ⟨(hX HB.out)⟩⟩
def impl_NumsText.l0 : Nat → List ByteArray → List Int → Int → Int → Option (ByteArray)
  | 0, _, _, _, _ => none
  | k + 1, x3, x7, x8, x9 => if x9 < x8 then (if 0 ≤ x9 then (if x9 < (x7.length : Int) then ((impl_Digits.f k (rd x7 x9)).bind fun t105 => (if x3.length < 8796093022208 then (impl_NumsText.l0 k (x3 ++ [t105]) x7 x8 (wrap64 (x9 + 1))) else (none))) else (none)) else (none)) else ((strings_Join.f x3 (⟨#[44]⟩ : ByteArray)).bind fun t109 => (some t109))
def impl_NumsText.f (k : Nat) (l0 : List Int) : Option (ByteArray) := impl_NumsText.l0 k (([] : List ByteArray)) l0 (l0.length : Int) 0
set_option maxHeartbeats 8000000 in
set_option maxRecDepth 100000 in
theorem impl_NumsText.calls (k : Nat) (A0 : Option Addr) (c0 : Nat) (l0 : List Int) (r : ByteArray) (w : World) (hr0 : Kd.C (Kd.int .i64) w A0 l0.length l0) (hc0 : l0.length ≤ c0) (h : impl_NumsText.f k l0 = some r) :
    Calls Tryd.prog 50 #[.slice A0 l0.length c0] w fun e w' => e = .returned (.string r) ∧ Below w.heap.size w w' := by
  have HR0 := aM hr0
  have HC0 := aM hc0
  clear hr0 hc0
  have HB := aM (Below.refl w.heap.size w)
  have H := h
  unfold impl_NumsText.f at H
  clear h
  obtain ⟨y101, hy101⟩ : ∃ y_ : List ByteArray, y_ = (([] : List ByteArray)) := ⟨_, rfl⟩
  replace H : (impl_NumsText.l0 k y101 l0 (l0.length : Int) 0) = some r := yH H hy101
  have Ny101 := aM hy101
  clear hy101
  have H' := aM H
  clear H
  go_enter Tryd.func50, Tryd.ntmps50
  go_wp2_with (first | ((with_reducible refine gate_dst (N := 6) rfl ?_); refine Kd.R_lit Kd.string _ 9 ?hg (N := 6) ?hd (xs := ([] : List ByteArray)) (inner := []) (ok := fun _ => True) (okp := fun _ => True) ?hr ?hp (fun _ hk => hk) trivial (Below.refl _ _) (Nat.le_refl _) (by simp) ?_; (case hd => rfl); (case hg => rfl); (case hr => first | (go_simp; done) | (go_simp; rfl)); (case hp => exact (Reps.none _ _)); intro vz1 wz1 hoz1 hb hg_ hnew_; clear hg_ hnew_; (first | rw [← Ny101.out] at hoz1 | (simp only [Int.reduceToNat] at hoz1; rw [← Ny101.out] at hoz1)); have HOz1 := aM (Kd.R_lower hoz1 (below_size (hX HB.out))); replace HB := aS HB hb; clear hb hoz1))
  go_loopg [3, 9] k (fun kq v3 v9 w' => ∃ (x3_1 : List ByteArray) (x9_1 : Int), v9 = .int .i64 x9_1 ∧ Aside0 (impl_NumsText.l0 kq x3_1 l0 (l0.length : Int) x9_1 = some r) ∧ Aside0 (kq ≤ k) ∧ Aside0 (Kd.R Kd.string 9 w' w.heap.size (fun _ => True) v3 x3_1) ∧ Aside0 (Below w.heap.size w w'))
  case atStart => exact ⟨(y101), (0), rS, H', ⟨Nat.le_refl _⟩, ⟨(rX HOz1.out)⟩, ⟨(hX HB.out)⟩⟩
  case round =>
    clear H'
    try clear p2
    obtain ⟨x3_1, x9_1, rfl, HA, HKy1, HO_y1, HB⟩ := hrel
    cases gk with
    | zero => exact absurd HA.out (by simp [impl_NumsText.l0])
    | succ k1 =>
      have H := HA.out
      clear HA
      simp only [impl_NumsText.l0] at H
      by_cases c4 : x9_1 < (l0.length : Int)
      case neg =>
        rw [if_neg c4] at H
        have c4b0 := decide_eq_false c4
        clear c4
        replace H := bE H; obtain ⟨t109, A10, H⟩ := H
        obtain rfl := sI H
        obtain ⟨Aox1, cox1, eox1⟩ := Kd.R_slice HO_y1.out
        subst eox1
        go_wp2_with (first | (refine goesM 48 20 Tryd.func48 #[.slice Aox1 x3_1.length cox1, .string (⟨#[44]⟩ : ByteArray)] ?_; refine (strings_Join.calls _ _ _ _ _ _ (cX (Kd.R_reads' HO_y1.out).2.2) ((Kd.R_reads' HO_y1.out).2.1) A10.out).mono ?_; rintro e wx1 ⟨rfl, hb⟩; refine ⟨_, rfl, ?_⟩; replace HO_y1 := aQ HO_y1 hb; replace HB := aS HB hb; clear hb))
        go_ret
        exact ⟨rE, (hX HB.out)⟩
      rw [if_pos c4] at H
      have c4b0 := decide_eq_true c4
      clear c4
      replace H := ifP H; obtain ⟨c5, H⟩ := H
      have c5b0 := decide_eq_true c5
      clear c5
      replace H := ifP H; obtain ⟨c6, H⟩ := H
      have c6b0 := decide_eq_true c6
      clear c6
      replace H := bE H; obtain ⟨t105, A7, H⟩ := H
      replace H := ifP H; obtain ⟨c8, H⟩ := H
      have LMc8 := aM c8
      clear c8
      obtain ⟨y106, hy106⟩ : ∃ y_ : List ByteArray, y_ = (x3_1 ++ [t105]) := ⟨_, rfl⟩
      replace H : (impl_NumsText.l0 k1 y106 l0 (l0.length : Int) (wrap64 (x9_1 + 1))) = some r := yH H hy106
      have Ny106 := aM hy106
      clear hy106
      have H' := aM H
      clear H
      obtain ⟨adx1, ex1, px1, qx1, hxx1⟩ := at_ic HR0 HB x9_1
      cases ex1
      go_wp2_with (first | (refine goesM 37 15 Tryd.func37 #[.int .i64 (rd l0 x9_1)] ?_; refine (impl_Digits.calls _ _ _ _ A7.out).mono ?_; rintro e w' ⟨rfl, ⟨nd, rfl⟩⟩; refine ⟨_, rfl, ?_⟩) | ((with_reducible refine gate_builtin (b := .append) (xs := #[.tmp 13, .tmp 16]) rfl ?_); at_builtin; refine Kd.R_append Kd.string (w0 := w) w.heap.size rfl (.tmp 13) (.tmp 16) 46 9 (.string ⟨#[]⟩) 16 rfl Tryd.underlying46 info9 rfl (by decide) (by omega) u3 x3_1 t105 [.string t105] (fun _ => True) (fun _ => False) rfl rfl ?aP (fun _ hk => hk.elim) ?aF ?aO ?aB ?aS ?aL ?_; (case aP => exact rfl); (case aB => exact (hX HB.out)); (case aF => exact (fun _ _ => trivial)); (case aO => exact (rX HO_y1.out)); (case aS => exact (below_size (hX HB.out))); (case aL => have := LMc8.out; omega); intro vx1 wx1 ho hb hg hat; rw [← Ny106.out] at ho; have HOx1 := aM (ho); replace HB := aM (hb); clear HO_y1; clear ho hb hg hat))
      go_roundg k1
      case measure => have := HKy1.out; omega
      case rel => exact ⟨(y106), (wrap64 (x9_1 + 1)), rS, H', ⟨by have := HKy1.out; omega⟩, ⟨(rX HOx1.out)⟩, ⟨(hX HB.out)⟩⟩
def impl_ResText.f (k : Nat) (a0_0 : Int) (l0_1 : List Int) : Option (ByteArray) := (impl_from.f a0_0 0 4).bind fun t102 => (if t102 = true then ((some (([(⟨#[100, 111, 110, 101]⟩ : ByteArray), (⟨#[116, 104, 101, 114, 101]⟩ : ByteArray), (⟨#[116, 97, 107, 101, 110]⟩ : ByteArray), (⟨#[110, 111, 110, 101]⟩ : ByteArray), (⟨#[110, 111, 116]⟩ : ByteArray)] : List ByteArray) : List ByteArray)).bind fun y103 => (if 0 ≤ a0_0 then (if a0_0 < (y103.length : Int) then (if (l0_1.length : Int) > 0 then ((impl_NumsText.f k l0_1).bind fun t107 => (if 1 + t107.size ≤ 9223372036854775807 then (if (rdOf ByteArray.empty y103 a0_0).size + ((⟨#[32]⟩ : ByteArray) ++ t107).size ≤ 9223372036854775807 then (some ((rdOf ByteArray.empty y103 a0_0) ++ ((⟨#[32]⟩ : ByteArray) ++ t107))) else (none)) else (none))) else (some (rdOf ByteArray.empty y103 a0_0))) else (none)) else (none))) else (if (l0_1.length : Int) > 0 then ((impl_NumsText.f k l0_1).bind fun t108 => (if 1 + t108.size ≤ 9223372036854775807 then (if 4 + ((⟨#[32]⟩ : ByteArray) ++ t108).size ≤ 9223372036854775807 then (some ((⟨#[119, 104, 97, 116]⟩ : ByteArray) ++ ((⟨#[32]⟩ : ByteArray) ++ t108))) else (none)) else (none))) else (some (⟨#[119, 104, 97, 116]⟩ : ByteArray))))
set_option maxHeartbeats 8000000 in
set_option maxRecDepth 100000 in
theorem impl_ResText.calls (k : Nat) (a0_0 : Int) (A0_1 : Option Addr) (c0_1 : Nat) (l0_1 : List Int) (r : ByteArray) (w : World) (hr0_1 : Kd.C (Kd.int .i64) w A0_1 l0_1.length l0_1) (hc0_1 : l0_1.length ≤ c0_1) (h : impl_ResText.f k a0_0 l0_1 = some r) :
    Calls Tryd.prog 24 #[.agg #[.int .i64 a0_0, .slice A0_1 l0_1.length c0_1]] w fun e w' => e = .returned (.string r) ∧ Below w.heap.size w w' := by
  have hu41 := Tryd.underlying41
  have HR0_1 := aM hr0_1
  have HC0_1 := aM hc0_1
  clear hr0_1 hc0_1
  have HB := aM (Below.refl w.heap.size w)
  have H := h
  unfold impl_ResText.f at H
  clear h
  replace H := bE H; obtain ⟨t102, A2, H⟩ := H
  go_enter Tryd.func24, Tryd.ntmps24
  go_wp2_with (first | (refine boxE 1 #[.int .i64 a0_0, .slice A0_1 l0_1.length c0_1] 41 ?_; intro gbz1 hg wz1 hbox hb; have BKz1 := aM (hbox); have GWz1 := aG hg HB; have GEz1 := aG hg HB; replace HB := aS HB hb; clear hb hbox hg; obtain ⟨hczz1, hczz2, hfzz1, hfzz2⟩ := cZ2 BKz1.out; refine Stop.out ?_))
  refine ⟨?_⟩
  by_cases c3 : t102 = true
  case neg =>
    replace c3 := Bool.eq_false_iff.mpr c3
    subst c3
    rw [if_neg nft] at H
    go_wp2_with (first | (refine goesM 49 6 Tryd.func49 #[.int .i64 a0_0, .int .i64 0, .int .i64 4] ?_; refine (impl_from.calls _ _ _ _ _ A2.out).mono ?_; rintro e w' ⟨rfl, ⟨nd, rfl⟩⟩; refine ⟨_, rfl, ?_⟩; refine Stop.out ?_))
    refine ⟨?_⟩
    by_cases c23 : (l0_1.length : Int) > 0
    case neg =>
      rw [if_neg c23] at H
      have c23b0 := decide_eq_false c23
      have c23b1 : decide (0 < l0_1.length) = false := decide_eq_false (by omega)
      clear c23
      obtain rfl := sI H
      go_wp2
      go_ret
      exact ⟨rE, (hX HB.out)⟩
    rw [if_pos c23] at H
    have c23b0 := decide_eq_true c23
    have c23b1 : decide (0 < l0_1.length) = true := decide_eq_true (by omega)
    clear c23
    replace H := bE H; obtain ⟨t108, A24, H⟩ := H
    replace H := ifP H; obtain ⟨c25, H⟩ := H
    have c25b0 := eq_true c25
    have c25b1 := decide_eq_true c25
    try have c25b2 : (9223372036854775807 < 1 + t108.size) = False := eq_false (Nat.not_lt.2 c25)
    replace H := ifP H; obtain ⟨c26, H⟩ := H
    have c26b0 := eq_true c26
    have c26b1 := decide_eq_true c26
    try have c26b2 : (9223372036854775807 < 4 + ((⟨#[32]⟩ : ByteArray) ++ t108).size) = False := eq_false (Nat.not_lt.2 c26)
    (try (have c26b3 : 4 + (1 + t108.size) ≤ 9223372036854775807 := (by have h_ := c26; simp only [ByteArray.size_append, strOfNums_size] at h_; exact h_); have c26b4 := eq_true c26b3; (try have c26b5 := decide_eq_true c26b3); (try have c26b6 := eq_false (Nat.not_lt.2 c26b3))))
    obtain rfl := sI H
    go_wp2_with (first | (refine goesM 50 19 Tryd.func50 #[.slice A0_1 l0_1.length c0_1] ?_; refine (impl_NumsText.calls _ _ _ _ _ _ (cC HR0_1.out HB.out) HC0_1.out A24.out).mono ?_; rintro e wz2 ⟨rfl, hb⟩; refine ⟨_, rfl, ?_⟩; replace BKz1 := aB BKz1 hb; replace HB := aS HB hb; clear hb))
    go_ret
    exact ⟨rE, (hX HB.out)⟩
  subst c3
  rw [if_pos rfl] at H
  replace H := sE H; obtain ⟨y103, Ny103, H⟩ := H
  replace H := ifP H; obtain ⟨c4, H⟩ := H
  have c4b0 := decide_eq_true c4
  clear c4
  replace H := ifP H; obtain ⟨c5, H⟩ := H
  have c5b0 := decide_eq_true c5
  clear c5
  go_wp2_with (first | (refine goesM 49 6 Tryd.func49 #[.int .i64 a0_0, .int .i64 0, .int .i64 4] ?_; refine (impl_from.calls _ _ _ _ _ A2.out).mono ?_; rintro e w' ⟨rfl, ⟨nd, rfl⟩⟩; refine ⟨_, rfl, ?_⟩) | ((with_reducible refine gate_dst (N := 7) rfl ?_); refine Kd.R_lit Kd.string _ 9 ?hg (N := 7) ?hd (xs := ([(⟨#[100, 111, 110, 101]⟩ : ByteArray), (⟨#[116, 104, 101, 114, 101]⟩ : ByteArray), (⟨#[116, 97, 107, 101, 110]⟩ : ByteArray), (⟨#[110, 111, 110, 101]⟩ : ByteArray), (⟨#[110, 111, 116]⟩ : ByteArray)] : List ByteArray)) (inner := [.string (⟨#[100, 111, 110, 101]⟩ : ByteArray), .string (⟨#[116, 104, 101, 114, 101]⟩ : ByteArray), .string (⟨#[116, 97, 107, 101, 110]⟩ : ByteArray), .string (⟨#[110, 111, 110, 101]⟩ : ByteArray), .string (⟨#[110, 111, 116]⟩ : ByteArray)]) (ok := fun _ => True) (okp := fun _ => True) ?hr ?hp (fun _ hk => hk) trivial (Below.refl _ _) (Nat.le_refl _) (by simp) ?_; (case hd => rfl); (case hg => rfl); (case hr => first | (go_simp; done) | (go_simp; rfl)); (case hp => exact (Reps.one (show Kd.M Kd.string _ _ _ (⟨#[100, 111, 110, 101]⟩ : ByteArray) [.string (⟨#[100, 111, 110, 101]⟩ : ByteArray)] from rfl) (Reps.one (show Kd.M Kd.string _ _ _ (⟨#[116, 104, 101, 114, 101]⟩ : ByteArray) [.string (⟨#[116, 104, 101, 114, 101]⟩ : ByteArray)] from rfl) (Reps.one (show Kd.M Kd.string _ _ _ (⟨#[116, 97, 107, 101, 110]⟩ : ByteArray) [.string (⟨#[116, 97, 107, 101, 110]⟩ : ByteArray)] from rfl) (Reps.one (show Kd.M Kd.string _ _ _ (⟨#[110, 111, 110, 101]⟩ : ByteArray) [.string (⟨#[110, 111, 110, 101]⟩ : ByteArray)] from rfl) (Reps.one (show Kd.M Kd.string _ _ _ (⟨#[110, 111, 116]⟩ : ByteArray) [.string (⟨#[110, 111, 116]⟩ : ByteArray)] from rfl) (Reps.none _ _))))))); intro vz1 wz2 hoz1 hb hg_ hnew_; clear hg_ hnew_; (first | rw [← Ny103.out] at hoz1 | (simp only [Int.reduceToNat] at hoz1; rw [← Ny103.out] at hoz1)); have HOz1 := aM (Kd.R_lower hoz1 (below_size (hX HB.out))); replace BKz1 := aB BKz1 hb; replace HB := aS HB hb; clear hb hoz1; obtain ⟨hczz3, hczz4, hfzz3, hfzz4⟩ := cZ2 BKz1.out; obtain ⟨Aoz1, coz1, eoz1⟩ := Kd.R_slice HOz1.out; subst eoz1; have pz1 : 0 ≤ (a0_0 : Int) := odA; have qz1 : a0_0 < (y103.length : Int) := odA; obtain ⟨adz1, ez1, hxz1⟩ := Kd.at_string (Kd.R_reads' HOz1.out).2.2 a0_0 pz1 qz1; cases ez1; replace pz1 := eq_true pz1; replace qz1 := eq_true qz1; refine Stop.out ?_))
  refine ⟨?_⟩
  by_cases c6 : (l0_1.length : Int) > 0
  case neg =>
    rw [if_neg c6] at H
    have c6b0 := decide_eq_false c6
    have c6b1 : decide (0 < l0_1.length) = false := decide_eq_false (by omega)
    clear c6
    obtain rfl := sI H
    go_wp2
    go_ret
    exact ⟨rE, (hX HB.out)⟩
  rw [if_pos c6] at H
  have c6b0 := decide_eq_true c6
  have c6b1 : decide (0 < l0_1.length) = true := decide_eq_true (by omega)
  clear c6
  replace H := bE H; obtain ⟨t107, A7, H⟩ := H
  replace H := ifP H; obtain ⟨c8, H⟩ := H
  have c8b0 := eq_true c8
  have c8b1 := decide_eq_true c8
  try have c8b2 : (9223372036854775807 < 1 + t107.size) = False := eq_false (Nat.not_lt.2 c8)
  replace H := ifP H; obtain ⟨c9, H⟩ := H
  have c9b0 := eq_true c9
  have c9b1 := decide_eq_true c9
  try have c9b2 : (9223372036854775807 < (rdOf ByteArray.empty y103 a0_0).size + ((⟨#[32]⟩ : ByteArray) ++ t107).size) = False := eq_false (Nat.not_lt.2 c9)
  (try (have c9b3 : (rdOf ByteArray.empty y103 a0_0).size + (1 + t107.size) ≤ 9223372036854775807 := (by have h_ := c9; simp only [ByteArray.size_append, strOfNums_size] at h_; exact h_); have c9b4 := eq_true c9b3; (try have c9b5 := decide_eq_true c9b3); (try have c9b6 := eq_false (Nat.not_lt.2 c9b3))))
  obtain rfl := sI H
  go_wp2_with (first | (refine goesM 50 19 Tryd.func50 #[.slice A0_1 l0_1.length c0_1] ?_; refine (impl_NumsText.calls _ _ _ _ _ _ (cC HR0_1.out HB.out) HC0_1.out A7.out).mono ?_; rintro e wz3 ⟨rfl, hb⟩; refine ⟨_, rfl, ?_⟩; replace HOz1 := aQ HOz1 hb; replace BKz1 := aB BKz1 hb; replace HB := aS HB hb; clear hb))
  go_ret
  exact ⟨rE, (hX HB.out)⟩
def spec_NumsText.l0 : Nat → List Int → ByteArray → Int → Option (ByteArray)
  | 0, _, _, _ => none
  | k + 1, x0, x3, x4 => if x4 < (x0.length : Int) then (if x4 > 0 then (if x3.size + 1 ≤ 9223372036854775807 then (if 0 ≤ x4 then ((spec_Digits.f k (rd x0 x4)).bind fun t102 => (if (x3 ++ (⟨#[44]⟩ : ByteArray)).size + t102.size ≤ 9223372036854775807 then (spec_NumsText.l0 k x0 ((x3 ++ (⟨#[44]⟩ : ByteArray)) ++ t102) (wrap64 (x4 + 1))) else (none))) else (none)) else (none)) else (if 0 ≤ x4 then ((spec_Digits.f k (rd x0 x4)).bind fun t104 => (if x3.size + t104.size ≤ 9223372036854775807 then (spec_NumsText.l0 k x0 (x3 ++ t104) (wrap64 (x4 + 1))) else (none))) else (none))) else (some x3)
def spec_NumsText.f (k : Nat) (l0 : List Int) : Option (ByteArray) := spec_NumsText.l0 k l0 (⟨#[]⟩ : ByteArray) 0
set_option maxHeartbeats 8000000 in
set_option maxRecDepth 100000 in
theorem spec_NumsText.calls (k : Nat) (A0 : Option Addr) (c0 : Nat) (l0 : List Int) (r : ByteArray) (w : World) (hr0 : Kd.C (Kd.int .i64) w A0 l0.length l0) (hc0 : l0.length ≤ c0) (h : spec_NumsText.f k l0 = some r) :
    Calls Tryd.prog 52 #[.slice A0 l0.length c0] w fun e w' => e = .returned (.string r) ∧ Below w.heap.size w w' := by
  have HR0 := aM hr0
  have HC0 := aM hc0
  clear hr0 hc0
  have HB := aM (Below.refl w.heap.size w)
  have H := h
  unfold spec_NumsText.f at H
  clear h
  have H' := aM H
  clear H
  go_enter Tryd.func52, Tryd.ntmps52
  go_wp2
  go_loopg [3, 4] k (fun kq v3 v4 w' => ∃ (x3_1 : ByteArray) (x4_1 : Int), v3 = .string x3_1 ∧ v4 = .int .i64 x4_1 ∧ Aside0 (spec_NumsText.l0 kq l0 x3_1 x4_1 = some r) ∧ Aside0 (kq ≤ k) ∧ Aside0 (Below w.heap.size w w'))
  case atStart => exact ⟨((⟨#[]⟩ : ByteArray)), (0), rS, rS, H', ⟨Nat.le_refl _⟩, ⟨(hX HB.out)⟩⟩
  case round =>
    clear H'
    obtain ⟨x3_1, x4_1, rfl, rfl, HA, HKy1, HB⟩ := hrel
    cases gk with
    | zero => exact absurd HA.out (by simp [spec_NumsText.l0])
    | succ k1 =>
      have H := HA.out
      clear HA
      simp only [spec_NumsText.l0] at H
      by_cases c2 : x4_1 < (l0.length : Int)
      case neg =>
        rw [if_neg c2] at H
        have c2b0 := decide_eq_false c2
        clear c2
        obtain rfl := sI H
        go_wp2
        go_ret
        exact ⟨rE, (hX HB.out)⟩
      rw [if_pos c2] at H
      have c2b0 := decide_eq_true c2
      clear c2
      by_cases c3 : x4_1 > 0
      case neg =>
        rw [if_neg c3] at H
        have c3b0 := decide_eq_false c3
        clear c3
        replace H := ifP H; obtain ⟨c9, H⟩ := H
        have c9b0 := decide_eq_true c9
        clear c9
        replace H := bE H; obtain ⟨t104, A10, H⟩ := H
        replace H := ifP H; obtain ⟨c11, H⟩ := H
        have c11b0 := eq_true c11
        have c11b1 := decide_eq_true c11
        try have c11b2 : (9223372036854775807 < x3_1.size + t104.size) = False := eq_false (Nat.not_lt.2 c11)
        have H' := aM H
        clear H
        obtain ⟨adx1, ex1, px1, qx1, hxx1⟩ := at_ic HR0 HB x4_1
        cases ex1
        go_wp2_with (first | (refine goesM 46 20 Tryd.func46 #[.int .i64 (rd l0 x4_1)] ?_; refine (spec_Digits.calls _ _ _ _ A10.out).mono ?_; rintro e wx1 ⟨rfl, hb⟩; refine ⟨_, rfl, ?_⟩; replace HB := aS HB hb; clear hb))
        go_roundg k1
        case measure => have := HKy1.out; omega
        case rel => exact ⟨(x3_1 ++ t104), (wrap64 (x4_1 + 1)), rS, rS, H', ⟨by have := HKy1.out; omega⟩, ⟨(hX HB.out)⟩⟩
      rw [if_pos c3] at H
      have c3b0 := decide_eq_true c3
      clear c3
      replace H := ifP H; obtain ⟨c4, H⟩ := H
      have c4b0 := eq_true c4
      have c4b1 := decide_eq_true c4
      try have c4b2 : (9223372036854775807 < x3_1.size + 1) = False := eq_false (Nat.not_lt.2 c4)
      replace H := ifP H; obtain ⟨c5, H⟩ := H
      have c5b0 := decide_eq_true c5
      clear c5
      replace H := bE H; obtain ⟨t102, A6, H⟩ := H
      replace H := ifP H; obtain ⟨c7, H⟩ := H
      have c7b0 := eq_true c7
      have c7b1 := decide_eq_true c7
      try have c7b2 : (9223372036854775807 < (x3_1 ++ (⟨#[44]⟩ : ByteArray)).size + t102.size) = False := eq_false (Nat.not_lt.2 c7)
      (try (have c7b3 : x3_1.size + 1 + t102.size ≤ 9223372036854775807 := (by have h_ := c7; simp only [ByteArray.size_append, strOfNums_size] at h_; exact h_); have c7b4 := eq_true c7b3; (try have c7b5 := decide_eq_true c7b3); (try have c7b6 := eq_false (Nat.not_lt.2 c7b3))))
      have H' := aM H
      clear H
      obtain ⟨adx1, ex1, px1, qx1, hxx1⟩ := at_ic HR0 HB x4_1
      cases ex1
      go_wp2_with (first | (refine goesM 46 20 Tryd.func46 #[.int .i64 (rd l0 x4_1)] ?_; refine (spec_Digits.calls _ _ _ _ A6.out).mono ?_; rintro e wx1 ⟨rfl, hb⟩; refine ⟨_, rfl, ?_⟩; replace HB := aS HB hb; clear hb))
      go_roundg k1
      case measure => have := HKy1.out; omega
      case rel => exact ⟨((x3_1 ++ (⟨#[44]⟩ : ByteArray)) ++ t102), (wrap64 (x4_1 + 1)), rS, rS, H', ⟨by have := HKy1.out; omega⟩, ⟨(hX HB.out)⟩⟩
def spec_ResText.f (k : Nat) (a0_0 : Int) (l0_1 : List Int) : Option (ByteArray) := (some (([(⟨#[100, 111, 110, 101]⟩ : ByteArray), (⟨#[116, 104, 101, 114, 101]⟩ : ByteArray), (⟨#[116, 97, 107, 101, 110]⟩ : ByteArray), (⟨#[110, 111, 110, 101]⟩ : ByteArray), (⟨#[110, 111, 116]⟩ : ByteArray), (⟨#[119, 104, 97, 116]⟩ : ByteArray)] : List ByteArray) : List ByteArray)).bind fun y102 => ((spec_l1In.f a0_0 0 (wrap64 ((y102.length : Int) - 1))).bind fun t105 => (if t105 = true then (if (l0_1.length : Int) > 0 then (if 0 ≤ a0_0 then (if a0_0 < (y102.length : Int) then (if (rdOf ByteArray.empty y102 a0_0).size + 1 ≤ 9223372036854775807 then ((spec_NumsText.f k l0_1).bind fun t107 => (if ((rdOf ByteArray.empty y102 a0_0) ++ (⟨#[32]⟩ : ByteArray)).size + t107.size ≤ 9223372036854775807 then (some (((rdOf ByteArray.empty y102 a0_0) ++ (⟨#[32]⟩ : ByteArray)) ++ t107)) else (none))) else (none)) else (none)) else (none)) else (if 0 ≤ a0_0 then (if a0_0 < (y102.length : Int) then (some (rdOf ByteArray.empty y102 a0_0)) else (none)) else (none))) else (if (l0_1.length : Int) > 0 then (if 0 ≤ (wrap64 ((y102.length : Int) - 1)) then (if (wrap64 ((y102.length : Int) - 1)) < (y102.length : Int) then (if (rdOf ByteArray.empty y102 (wrap64 ((y102.length : Int) - 1))).size + 1 ≤ 9223372036854775807 then ((spec_NumsText.f k l0_1).bind fun t110 => (if ((rdOf ByteArray.empty y102 (wrap64 ((y102.length : Int) - 1))) ++ (⟨#[32]⟩ : ByteArray)).size + t110.size ≤ 9223372036854775807 then (some (((rdOf ByteArray.empty y102 (wrap64 ((y102.length : Int) - 1))) ++ (⟨#[32]⟩ : ByteArray)) ++ t110)) else (none))) else (none)) else (none)) else (none)) else (if 0 ≤ (wrap64 ((y102.length : Int) - 1)) then (if (wrap64 ((y102.length : Int) - 1)) < (y102.length : Int) then (some (rdOf ByteArray.empty y102 (wrap64 ((y102.length : Int) - 1)))) else (none)) else (none)))))
def spec_ResText.T6 : Bool × List (List Nat × List Nat) := (true, [([], []), ([], []), ([0, 1], [0, 1]), ([2], [2]), ([3], [3]), ([], []), ([5], [5]), ([6], [6]), ([4, 7], [4, 7]), ([8, 7, 0, 1, 2, 3, 4, 5, 6, 7, 8], [8])])
def spec_ResText.B6 : List Nat := [0, 0, 3, 7, 15, 0, 32, 96, 255, 511]
theorem spec_ResText.tab6 : rtab .any (opsOf Tryd.f25 6) = spec_ResText.T6 := by kernel_rfl
theorem spec_ResText.bits6 : waitsOk spec_ResText.T6.2 spec_ResText.B6 = true := by kernel_rfl
set_option maxHeartbeats 8000000 in
set_option maxRecDepth 100000 in
theorem spec_ResText.calls (k : Nat) (a0_0 : Int) (A0_1 : Option Addr) (c0_1 : Nat) (l0_1 : List Int) (r : ByteArray) (w : World) (hr0_1 : Kd.C (Kd.int .i64) w A0_1 l0_1.length l0_1) (hc0_1 : l0_1.length ≤ c0_1) (h : spec_ResText.f k a0_0 l0_1 = some r) :
    Calls Tryd.prog 25 #[.agg #[.int .i64 a0_0, .slice A0_1 l0_1.length c0_1]] w fun e w' => e = .returned (.string r) ∧ Below w.heap.size w w' := by
  have hu41 := Tryd.underlying41
  have HR0_1 := aM hr0_1
  have HC0_1 := aM hc0_1
  clear hr0_1 hc0_1
  have HB := aM (Below.refl w.heap.size w)
  have H := h
  unfold spec_ResText.f at H
  clear h
  replace H := sE H; obtain ⟨y102, Ny102, H⟩ := H
  replace H := bE H; obtain ⟨t105, A2, H⟩ := H
  go_enter Tryd.func25, Tryd.ntmps25
  go_wp2_with (first | (refine boxE 1 #[.int .i64 a0_0, .slice A0_1 l0_1.length c0_1] 41 ?_; intro gbz1 hg wz1 hbox hb; have BKz1 := aM (hbox); have GWz1 := aG hg HB; have GEz1 := aG hg HB; replace HB := aS HB hb; clear hb hbox hg) | ((with_reducible refine gate_dst (N := 5) rfl ?_); refine Kd.R_lit Kd.string _ 9 ?hg (N := 5) ?hd (xs := ([(⟨#[100, 111, 110, 101]⟩ : ByteArray), (⟨#[116, 104, 101, 114, 101]⟩ : ByteArray), (⟨#[116, 97, 107, 101, 110]⟩ : ByteArray), (⟨#[110, 111, 110, 101]⟩ : ByteArray), (⟨#[110, 111, 116]⟩ : ByteArray), (⟨#[119, 104, 97, 116]⟩ : ByteArray)] : List ByteArray)) (inner := [.string (⟨#[100, 111, 110, 101]⟩ : ByteArray), .string (⟨#[116, 104, 101, 114, 101]⟩ : ByteArray), .string (⟨#[116, 97, 107, 101, 110]⟩ : ByteArray), .string (⟨#[110, 111, 110, 101]⟩ : ByteArray), .string (⟨#[110, 111, 116]⟩ : ByteArray), .string (⟨#[119, 104, 97, 116]⟩ : ByteArray)]) (ok := fun _ => True) (okp := fun _ => True) ?hr ?hp (fun _ hk => hk) trivial (Below.refl _ _) (Nat.le_refl _) (by simp) ?_; (case hd => rfl); (case hg => rfl); (case hr => first | (go_simp; done) | (go_simp; rfl)); (case hp => exact (Reps.one (show Kd.M Kd.string _ _ _ (⟨#[100, 111, 110, 101]⟩ : ByteArray) [.string (⟨#[100, 111, 110, 101]⟩ : ByteArray)] from rfl) (Reps.one (show Kd.M Kd.string _ _ _ (⟨#[116, 104, 101, 114, 101]⟩ : ByteArray) [.string (⟨#[116, 104, 101, 114, 101]⟩ : ByteArray)] from rfl) (Reps.one (show Kd.M Kd.string _ _ _ (⟨#[116, 97, 107, 101, 110]⟩ : ByteArray) [.string (⟨#[116, 97, 107, 101, 110]⟩ : ByteArray)] from rfl) (Reps.one (show Kd.M Kd.string _ _ _ (⟨#[110, 111, 110, 101]⟩ : ByteArray) [.string (⟨#[110, 111, 110, 101]⟩ : ByteArray)] from rfl) (Reps.one (show Kd.M Kd.string _ _ _ (⟨#[110, 111, 116]⟩ : ByteArray) [.string (⟨#[110, 111, 116]⟩ : ByteArray)] from rfl) (Reps.one (show Kd.M Kd.string _ _ _ (⟨#[119, 104, 97, 116]⟩ : ByteArray) [.string (⟨#[119, 104, 97, 116]⟩ : ByteArray)] from rfl) (Reps.none _ _)))))))); intro vz1 wz2 hoz1 hb hg_ hnew_; clear hg_ hnew_; (first | rw [← Ny102.out] at hoz1 | (simp only [Int.reduceToNat] at hoz1; rw [← Ny102.out] at hoz1)); have HOz1 := aM (Kd.R_lower hoz1 (below_size (hX HB.out))); replace BKz1 := aB BKz1 hb; replace HB := aS HB hb; clear hb hoz1; obtain ⟨hczz1, hczz2, hfzz1, hfzz2⟩ := cZ2 BKz1.out; obtain ⟨Aoz1, coz1, eoz1⟩ := Kd.R_slice HOz1.out; subst eoz1; refine Stop.out ?_))
  refine ⟨?_⟩
  by_cases c3 : t105 = true
  · subst c3
    rw [if_pos rfl] at H
    by_cases c4 : (l0_1.length : Int) > 0
    case neg =>
      rw [if_neg c4] at H
      have c4b0 := decide_eq_false c4
      have c4b1 : decide (0 < l0_1.length) = false := decide_eq_false (by omega)
      clear c4
      replace H := ifP H; obtain ⟨c17, H⟩ := H
      have c17b0 := decide_eq_true c17
      clear c17
      replace H := ifP H; obtain ⟨c18, H⟩ := H
      have c18b0 := decide_eq_true c18
      clear c18
      obtain rfl := sI H
      go_wp2_with (first | (refine goesM 51 12 Tryd.func51 #[.int .i64 a0_0, .int .i64 0, .int .i64 (wrap64 ((y102.length : Int) - 1))] ?_; refine (spec_l1In.calls _ _ _ _ _ A2.out).mono ?_; rintro e w' ⟨rfl, ⟨nd, rfl⟩⟩; refine ⟨_, rfl, ?_⟩; have pz1 : 0 ≤ (a0_0 : Int) := odA; have qz1 : a0_0 < (y102.length : Int) := odA; obtain ⟨adz1, ez1, hxz1⟩ := Kd.at_string (Kd.R_reads' HOz1.out).2.2 a0_0 pz1 qz1; cases ez1; replace pz1 := eq_true pz1; replace qz1 := eq_true qz1))
      go_ret
      exact ⟨rE, (hX HB.out)⟩
    rw [if_pos c4] at H
    have c4b0 := decide_eq_true c4
    have c4b1 : decide (0 < l0_1.length) = true := decide_eq_true (by omega)
    clear c4
    replace H := ifP H; obtain ⟨c5, H⟩ := H
    have c5b0 := decide_eq_true c5
    clear c5
    replace H := ifP H; obtain ⟨c6, H⟩ := H
    have c6b0 := decide_eq_true c6
    clear c6
    replace H := ifP H; obtain ⟨c7, H⟩ := H
    have c7b0 := eq_true c7
    have c7b1 := decide_eq_true c7
    try have c7b2 : (9223372036854775807 < (rdOf ByteArray.empty y102 a0_0).size + 1) = False := eq_false (Nat.not_lt.2 c7)
    replace H := bE H; obtain ⟨t107, A8, H⟩ := H
    replace H := ifP H; obtain ⟨c9, H⟩ := H
    have c9b0 := eq_true c9
    have c9b1 := decide_eq_true c9
    try have c9b2 : (9223372036854775807 < ((rdOf ByteArray.empty y102 a0_0) ++ (⟨#[32]⟩ : ByteArray)).size + t107.size) = False := eq_false (Nat.not_lt.2 c9)
    (try (have c9b3 : (rdOf ByteArray.empty y102 a0_0).size + 1 + t107.size ≤ 9223372036854775807 := (by have h_ := c9; simp only [ByteArray.size_append, strOfNums_size] at h_; exact h_); have c9b4 := eq_true c9b3; (try have c9b5 := decide_eq_true c9b3); (try have c9b6 := eq_false (Nat.not_lt.2 c9b3))))
    obtain rfl := sI H
    try go_wp2_with (first | (refine goesM 51 12 Tryd.func51 #[.int .i64 a0_0, .int .i64 0, .int .i64 (wrap64 ((y102.length : Int) - 1))] ?_; refine (spec_l1In.calls _ _ _ _ _ A2.out).mono ?_; rintro e w' ⟨rfl, ⟨nd, rfl⟩⟩; refine ⟨_, rfl, ?_⟩))
    (try (rw [drewN_self wz2]; generalize hq_ : World.drewN wz2 _ = wz2; have nz1 : Aside0 (Kd.R Kd.string 9 wz2 w.heap.size (fun _ => True) (.slice Aoz1 y102.length coz1) y102) := ⟨by rw [← hq_]; exact (rX HOz1.out)⟩; have nz2 : Aside0 (wz2.heap[gbz1]? = some (.cells #[.int .i64 a0_0, .slice A0_1 l0_1.length c0_1] 41 (0, 0))) := ⟨by rw [← hq_]; exact (bX BKz1.out)⟩; have nz3 : Aside0 (Below w.heap.size w wz2) := ⟨by rw [← hq_]; exact (hX HB.out)⟩; clear HOz1 BKz1 HB hq_; have HOz1 := nz1; have BKz1 := nz2; have HB := nz3; clear nz1 nz2 nz3))
    replace HOz1 := aM (Kd.R_drew HOz1.out)
    replace BKz1 := aM (blk_drew BKz1.out)
    replace HB := aM (below_drew1 HB.out)
    have pz1 : 0 ≤ (a0_0 : Int) := odA
    have qz1 : a0_0 < (y102.length : Int) := odA
    obtain ⟨adz1, ez1, hxz1⟩ := Kd.at_string (Kd.R_reads' HOz1.out).2.2 a0_0 pz1 qz1
    cases ez1
    replace pz1 := eq_true pz1
    replace qz1 := eq_true qz1
    refine start_ (n := 10) (S := fun w' => w'.cell? ⟨gbz1, 0, none⟩ = some (.int .i64 a0_0) ∧ w'.cell? ⟨gbz1, 1, none⟩ = some (.slice A0_1 l0_1.length c0_1) ∧ w'.cell? (adz1.add (a0_0).toNat) = some (.string (rdOf ByteArray.empty y102 a0_0))) (ds := []) (bm 10 0) (by kernel_rfl) rfl (by kernel_rfl) ⟨cK BKz1.out 0, cK BKz1.out 1, hxz1⟩ (fun hHeld => ?_); refine with_tabW spec_ResText.tab6 spec_ResText.bits6 (fun HT_ HW_ => ?_)
    generalize wz2.drew = wz3 at HOz1 BKz1 HB hxz1 hHeld ⊢
    refine pZ 0 21 (bm 10 1) HT_.out ?_
    refine pZ 1 22 (bm 10 3) HT_.out ?_
    refine pZ 2 23 (bm 10 7) HT_.out ?_
    refine pZ 5 26 (bm 10 39) HT_.out ?_
    refine tZ 3 24 (bm 10 47) HT_.out HW_.out hHeld ?_
    refine pZ 4 25 (bm 10 63) HT_.out ?_
    refine tZ 6 27 (bm 10 127) HT_.out HW_.out hHeld ?_
    refine oZ 7 (some 28) (bm 10 255) HT_.out (fun K hK => ?_)
    refine goesN Tryd.func52 #[.slice A0_1 l0_1.length c0_1] ?_
    with_reducible refine (spec_NumsText.calls k _ _ l0_1 t107 _ ?side1 ?side2 A8.out).mono ?_
    (case side1 => repeat (first | exact (Kd.C_below HR0_1.out HB.out) | (with_reducible refine Kd.C_alloc ?_ _) | (with_reducible refine Kd.C_drewN ?_ _) | (with_reducible refine Kd.C_drew ?_)))
    (case side2 => exact HC0_1.out)
    rintro e wz4 ⟨rfl, hb⟩
    have HSz1 := (hb.cell (World.block_lt_of_cell? _ _ (hHeld.2.2))).trans (hHeld.2.2)
    refine ⟨_, rfl, ?_⟩
    replace HOz1 := aQ HOz1 hb
    replace BKz1 := aB BKz1 hb
    replace HB := aS HB hb
    (try clear hb)
    (try clear hb2)
    (try clear hk)
    (try clear hi)
    refine hK.out _ _ ⟨cK BKz1.out 0, cK BKz1.out 1, HSz1⟩ (fun hHeld => ?_)
    clear hK K
    refine nZ 28 ?_
    refine pZ 8 29 (bm 10 511) HT_.out ?_
    refine pZ 9 2 (bm 10 1023) HT_.out ?_
    refine done_ (done_of HT_.out (by kernel_rfl)) ?_
    try go_wp2
    go_ret
    exact ⟨rE, (hX HB.out)⟩
  replace c3 := Bool.eq_false_iff.mpr c3
  subst c3
  rw [if_neg nft] at H
  by_cases c24 : (l0_1.length : Int) > 0
  case neg =>
    rw [if_neg c24] at H
    have c24b0 := decide_eq_false c24
    have c24b1 : decide (0 < l0_1.length) = false := decide_eq_false (by omega)
    clear c24
    obtain ⟨ji38, hji38⟩ : ∃ j_ : Int, (wrap64 ((y102.length : Int) - 1)) = j_ := ⟨_, rfl⟩
    replace H : (if 0 ≤ (ji38) then (if (ji38) < (y102.length : Int) then (some (rdOf ByteArray.empty y102 (ji38))) else (none)) else (none)) = some r := by first | (rw [hji38] at H; exact H) | (simp only [hji38] at H ⊢; exact H)
    (try rw [hji38] at A2)
    have hji38w : (IntKind.i64.wrap ((y102.length : Int) - 1)) = ji38 := (i64_w _).trans hji38
    replace H := ifP H; obtain ⟨c39, H⟩ := H
    have c39b0 := decide_eq_true c39
    clear c39
    replace H := ifP H; obtain ⟨c40, H⟩ := H
    have c40b0 := decide_eq_true c40
    clear c40
    obtain rfl := sI H
    go_wp2_with (first | ((with_reducible refine gate_callee (f := 51) rfl ?_); refine goesL_ (some 12) rfl rfl Tryd.func51 (by kernel_rfl) rfl #[.int .i64 a0_0, .int .i64 0, .int .i64 ji38] rfl (by (try simp only [List.map_toArray, List.map_cons, List.map_nil]); first | done | (simp only [hji38]; rfl) | rfl | (simp only [List.length_drop, List.length_take]; rfl)) ?_; (with_reducible refine (spec_l1In.calls _ _ _ _ _ A2.out).mono ?_); rintro e w' ⟨rfl, ⟨nd, rfl⟩⟩; refine ⟨_, rfl, ?_⟩; have pz1 : 0 ≤ ((ji38) : Int) := odA; have qz1 : (ji38) < (y102.length : Int) := odA; obtain ⟨adz1, ez1, hxz1⟩ := Kd.at_string (Kd.R_reads' HOz1.out).2.2 (ji38) pz1 qz1; cases ez1; replace pz1 := eq_true pz1; replace qz1 := eq_true qz1))
    go_ret
    exact ⟨by first | rfl | (simp [errW_none, errW_some] <;> rfl) | (simp only [← hji38]; first | rfl | (simp [errW_none, errW_some] <;> rfl)) | (simp [*, errW_none, errW_some] <;> rfl), (hX HB.out)⟩
  rw [if_pos c24] at H
  have c24b0 := decide_eq_true c24
  have c24b1 : decide (0 < l0_1.length) = true := decide_eq_true (by omega)
  clear c24
  obtain ⟨ji25, hji25⟩ : ∃ j_ : Int, (wrap64 ((y102.length : Int) - 1)) = j_ := ⟨_, rfl⟩
  replace H : (if 0 ≤ (ji25) then (if (ji25) < (y102.length : Int) then (if (rdOf ByteArray.empty y102 (ji25)).size + 1 ≤ 9223372036854775807 then ((spec_NumsText.f k l0_1).bind fun t110 => (if ((rdOf ByteArray.empty y102 (ji25)) ++ (⟨#[32]⟩ : ByteArray)).size + t110.size ≤ 9223372036854775807 then (some (((rdOf ByteArray.empty y102 (ji25)) ++ (⟨#[32]⟩ : ByteArray)) ++ t110)) else (none))) else (none)) else (none)) else (none)) = some r := by first | (rw [hji25] at H; exact H) | (simp only [hji25] at H ⊢; exact H)
  (try rw [hji25] at A2)
  have hji25w : (IntKind.i64.wrap ((y102.length : Int) - 1)) = ji25 := (i64_w _).trans hji25
  replace H := ifP H; obtain ⟨c26, H⟩ := H
  have c26b0 := decide_eq_true c26
  clear c26
  replace H := ifP H; obtain ⟨c27, H⟩ := H
  have c27b0 := decide_eq_true c27
  clear c27
  replace H := ifP H; obtain ⟨c28, H⟩ := H
  have c28b0 := eq_true c28
  have c28b1 := decide_eq_true c28
  try have c28b2 : (9223372036854775807 < (rdOf ByteArray.empty y102 (ji25)).size + 1) = False := eq_false (Nat.not_lt.2 c28)
  replace H := bE H; obtain ⟨t110, A29, H⟩ := H
  replace H := ifP H; obtain ⟨c30, H⟩ := H
  have c30b0 := eq_true c30
  have c30b1 := decide_eq_true c30
  try have c30b2 : (9223372036854775807 < ((rdOf ByteArray.empty y102 (ji25)) ++ (⟨#[32]⟩ : ByteArray)).size + t110.size) = False := eq_false (Nat.not_lt.2 c30)
  (try (have c30b3 : (rdOf ByteArray.empty y102 (ji25)).size + 1 + t110.size ≤ 9223372036854775807 := (by have h_ := c30; simp only [ByteArray.size_append, strOfNums_size] at h_; exact h_); have c30b4 := eq_true c30b3; (try have c30b5 := decide_eq_true c30b3); (try have c30b6 := eq_false (Nat.not_lt.2 c30b3))))
  obtain rfl := sI H
  try go_wp2_with (first | ((with_reducible refine gate_callee (f := 51) rfl ?_); refine goesL_ (some 12) rfl rfl Tryd.func51 (by kernel_rfl) rfl #[.int .i64 a0_0, .int .i64 0, .int .i64 ji25] rfl (by (try simp only [List.map_toArray, List.map_cons, List.map_nil]); first | done | (simp only [hji25]; rfl) | rfl | (simp only [List.length_drop, List.length_take]; rfl)) ?_; (with_reducible refine (spec_l1In.calls _ _ _ _ _ A2.out).mono ?_); rintro e w' ⟨rfl, ⟨nd, rfl⟩⟩; refine ⟨_, rfl, ?_⟩))
  (try (rw [drewN_self wz2]; generalize hq_ : World.drewN wz2 _ = wz2; have nz1 : Aside0 (Kd.R Kd.string 9 wz2 w.heap.size (fun _ => True) (.slice Aoz1 y102.length coz1) y102) := ⟨by rw [← hq_]; exact (rX HOz1.out)⟩; have nz2 : Aside0 (wz2.heap[gbz1]? = some (.cells #[.int .i64 a0_0, .slice A0_1 l0_1.length c0_1] 41 (0, 0))) := ⟨by rw [← hq_]; exact (bX BKz1.out)⟩; have nz3 : Aside0 (Below w.heap.size w wz2) := ⟨by rw [← hq_]; exact (hX HB.out)⟩; clear HOz1 BKz1 HB hq_; have HOz1 := nz1; have BKz1 := nz2; have HB := nz3; clear nz1 nz2 nz3))
  replace HOz1 := aM (Kd.R_drew HOz1.out)
  replace BKz1 := aM (blk_drew BKz1.out)
  replace HB := aM (below_drew1 HB.out)
  have pz1 : 0 ≤ ((ji25) : Int) := odA
  have qz1 : (ji25) < (y102.length : Int) := odA
  obtain ⟨adz1, ez1, hxz1⟩ := Kd.at_string (Kd.R_reads' HOz1.out).2.2 (ji25) pz1 qz1
  cases ez1
  replace pz1 := eq_true pz1
  replace qz1 := eq_true qz1
  refine start_ (n := 10) (S := fun w' => w'.cell? ⟨gbz1, 0, none⟩ = some (.int .i64 a0_0) ∧ w'.cell? ⟨gbz1, 1, none⟩ = some (.slice A0_1 l0_1.length c0_1) ∧ w'.cell? (adz1.add ((ji25)).toNat) = some (.string (rdOf ByteArray.empty y102 (ji25)))) (ds := []) (bm 10 0) (by kernel_rfl) rfl (by kernel_rfl) ⟨cK BKz1.out 0, cK BKz1.out 1, hxz1⟩ (fun hHeld => ?_); refine with_tabW spec_ResText.tab6 spec_ResText.bits6 (fun HT_ HW_ => ?_)
  generalize wz2.drew = wz3 at HOz1 BKz1 HB hxz1 hHeld ⊢
  refine pZ 0 21 (bm 10 1) HT_.out ?_
  refine pZ 1 22 (bm 10 3) HT_.out ?_
  refine pZ 2 23 (bm 10 7) HT_.out ?_
  refine pZ 5 26 (bm 10 39) HT_.out ?_
  refine tZ 3 24 (bm 10 47) HT_.out HW_.out hHeld ?_
  refine pZ 4 25 (bm 10 63) HT_.out ?_
  refine tZ 6 27 (bm 10 127) HT_.out HW_.out hHeld ?_
  refine oZ 7 (some 28) (bm 10 255) HT_.out (fun K hK => ?_)
  refine goesN Tryd.func52 #[.slice A0_1 l0_1.length c0_1] ?_
  with_reducible refine (spec_NumsText.calls k _ _ l0_1 t110 _ ?side1 ?side2 A29.out).mono ?_
  (case side1 => repeat (first | exact (Kd.C_below HR0_1.out HB.out) | (with_reducible refine Kd.C_alloc ?_ _) | (with_reducible refine Kd.C_drewN ?_ _) | (with_reducible refine Kd.C_drew ?_)))
  (case side2 => exact HC0_1.out)
  rintro e wz4 ⟨rfl, hb⟩
  have HSz1 := (hb.cell (World.block_lt_of_cell? _ _ (hHeld.2.2))).trans (hHeld.2.2)
  refine ⟨_, rfl, ?_⟩
  replace HOz1 := aQ HOz1 hb
  replace BKz1 := aB BKz1 hb
  replace HB := aS HB hb
  (try clear hb)
  (try clear hb2)
  (try clear hk)
  (try clear hi)
  refine hK.out _ _ ⟨cK BKz1.out 0, cK BKz1.out 1, HSz1⟩ (fun hHeld => ?_)
  clear hK K
  refine nZ 28 ?_
  refine pZ 8 29 (bm 10 511) HT_.out ?_
  refine pZ 9 2 (bm 10 1023) HT_.out ?_
  refine done_ (done_of HT_.out (by kernel_rfl)) ?_
  try go_wp2
  go_ret
  exact ⟨by first | rfl | (simp [errW_none, errW_some] <;> rfl) | (simp only [← hji25]; first | rfl | (simp [errW_none, errW_some] <;> rfl)) | (simp [*, errW_none, errW_some] <;> rfl), (hX HB.out)⟩
def spec_Split.l0 : Nat → ByteArray → Int → List ByteArray → Int → Int → Option (List ByteArray)
  | 0, _, _, _, _, _ => none
  | k + 1, x0, x1, x5, x6, x7 => if x7 ≤ (x0.size : Int) then (if x7 = (x0.size : Int) then (if 0 ≤ x6 then (if x6 ≤ x7 then (if x5.length < 8796093022208 then (spec_Split.l0 k x0 x1 (x5 ++ [x0.extract (x6 : Int).toNat (x7 : Int).toNat]) (wrap64 (x7 + 1)) (wrap64 (x7 + 1))) else (none)) else (none)) else (none)) else (if 0 ≤ x7 then (if x7 < (x0.size : Int) then (if (bt x0 x7) = x1 then (if 0 ≤ x6 then (if x6 ≤ x7 then (if x5.length < 8796093022208 then (spec_Split.l0 k x0 x1 (x5 ++ [x0.extract (x6 : Int).toNat (x7 : Int).toNat]) (wrap64 (x7 + 1)) (wrap64 (x7 + 1))) else (none)) else (none)) else (none)) else (spec_Split.l0 k x0 x1 x5 x6 (wrap64 (x7 + 1)))) else (none)) else (none))) else (some x5)
def spec_Split.f (k : Nat) (a0 : ByteArray) (a1 : Int) : Option (List ByteArray) := spec_Split.l0 k a0 a1 (([] : List ByteArray)) 0 0
theorem spec_Split.mono_l : ∀ k, (∀ y0 y1 y2 y3 y4, LeO (spec_Split.l0 k y0 y1 y2 y3 y4) (spec_Split.l0 (k + 1) y0 y1 y2 y3 y4))
  | 0 => fun _ _ _ _ _ r h => by simp [spec_Split.l0] at h
  | k + 1 => by
    have ih0 := spec_Split.mono_l k
    · intro y0 y1 y2 y3 y4
      unfold spec_Split.l0
      repeat' first
      | (with_reducible exact ih0 _ _ _ _ _)
      | (with_reducible exact LeO.refl _)
      | (with_reducible exact LeO.none _)
      | (with_reducible refine LeO.ite ?_ ?_)
      | (with_reducible refine LeO.bind ?_ (fun _ => ?_))
      | exact ih0 _ _ _ _ _
      | exact LeO.none _
      | refine LeO.ite ?_ ?_
      | refine LeO.bind ?_ (fun _ => ?_)
theorem spec_Split.mono : ∀ a0 a1 k, LeO (spec_Split.f k a0 a1) (spec_Split.f (k + 1) a0 a1) := by
  intro a0 a1 k
  have ih0 := spec_Split.mono_l k
  unfold spec_Split.f
  repeat' first
      | (with_reducible exact ih0 _ _ _ _ _)
      | (with_reducible exact LeO.refl _)
      | (with_reducible exact LeO.none _)
      | (with_reducible refine LeO.ite ?_ ?_)
      | (with_reducible refine LeO.bind ?_ (fun _ => ?_))
      | exact ih0 _ _ _ _ _
      | exact LeO.none _
      | refine LeO.ite ?_ ?_
      | refine LeO.bind ?_ (fun _ => ?_)
set_option maxHeartbeats 8000000 in
set_option maxRecDepth 100000 in
theorem spec_Split.calls (k : Nat) (a0 : ByteArray) (a1 : Int) (r : List ByteArray) (w : World) (h : spec_Split.f k a0 a1 = some r) :
    Calls Tryd.prog 27 #[.string a0, .int .u8 a1] w fun e w' => ∃ v0_ : Value, e = .returned (v0_) ∧ Kd.R Kd.string 9 w' w.heap.size (fun _ => True) v0_ r ∧ Below w.heap.size w w' := by
  have HB := aM (Below.refl w.heap.size w)
  have H := h
  unfold spec_Split.f at H
  clear h
  obtain ⟨y101, hy101⟩ : ∃ y_ : List ByteArray, y_ = (([] : List ByteArray)) := ⟨_, rfl⟩
  replace H : (spec_Split.l0 k a0 a1 y101 0 0) = some r := yH H hy101
  have Ny101 := aM hy101
  clear hy101
  have H' := aM H
  clear H
  go_enter Tryd.func27, Tryd.ntmps27
  go_wp2_with (first | ((with_reducible refine gate_dst (N := 8) rfl ?_); refine Kd.R_lit Kd.string _ 9 ?hg (N := 8) ?hd (xs := ([] : List ByteArray)) (inner := []) (ok := fun _ => True) (okp := fun _ => True) ?hr ?hp (fun _ hk => hk) trivial (Below.refl _ _) (Nat.le_refl _) (by simp) ?_; (case hd => rfl); (case hg => rfl); (case hr => first | (go_simp; done) | (go_simp; rfl)); (case hp => exact (Reps.none _ _)); intro vz1 wz1 hoz1 hb hg_ hnew_; clear hg_ hnew_; (first | rw [← Ny101.out] at hoz1 | (simp only [Int.reduceToNat] at hoz1; rw [← Ny101.out] at hoz1)); have HOz1 := aM (Kd.R_lower hoz1 (below_size (hX HB.out))); replace HB := aS HB hb; clear hb hoz1))
  go_loopg [5, 6, 7] k (fun kq v5 v6 v7 w' => ∃ (x5_1 : List ByteArray) (x6_1 : Int) (x7_1 : Int), v6 = .int .i64 x6_1 ∧ v7 = .int .i64 x7_1 ∧ Aside0 (spec_Split.l0 kq a0 a1 x5_1 x6_1 x7_1 = some r) ∧ Aside0 (kq ≤ k) ∧ Aside0 (Kd.R Kd.string 9 w' w.heap.size (fun _ => True) v5 x5_1) ∧ Aside0 (Below w.heap.size w w'))
  case atStart => exact ⟨(y101), (0), (0), rS, rS, H', ⟨Nat.le_refl _⟩, ⟨(rX HOz1.out)⟩, ⟨(hX HB.out)⟩⟩
  case round =>
    clear H'
    try clear p2
    obtain ⟨x5_1, x6_1, x7_1, rfl, rfl, HA, HKy1, HO_y1, HB⟩ := hrel
    cases gk with
    | zero => exact absurd HA.out (by simp [spec_Split.l0])
    | succ k1 =>
      have H := HA.out
      clear HA
      simp only [spec_Split.l0] at H
      by_cases c5 : x7_1 ≤ (a0.size : Int)
      case neg =>
        rw [if_neg c5] at H
        have c5b0 := decide_eq_false c5
        clear c5
        obtain rfl := sI H
        go_wp2
        go_ret
        exact ⟨_, rE, (rX HO_y1.out), (hX HB.out)⟩
      rw [if_pos c5] at H
      have c5b0 := decide_eq_true c5
      clear c5
      by_cases c6 : x7_1 = (a0.size : Int)
      · rw [if_pos c6] at H
        obtain ⟨c6b0, c6b1⟩ := eqT c6
        clear c6
        replace H := ifP H; obtain ⟨c7, H⟩ := H
        have c7b0 := eq_true c7
        have c7b1 := decide_eq_true c7
        clear c7
        replace H := ifP H; obtain ⟨c8, H⟩ := H
        have c8b0 := eq_true c8
        have c8b1 := decide_eq_true c8
        clear c8
        have c9b0 := eq_true (odA : x7_1 ≤ (a0.size : Int))
        replace H := ifP H; obtain ⟨c10, H⟩ := H
        have LMc10 := aM c10
        clear c10
        obtain ⟨y104, hy104⟩ : ∃ y_ : List ByteArray, y_ = (x5_1 ++ [a0.extract (x6_1 : Int).toNat (x7_1 : Int).toNat]) := ⟨_, rfl⟩
        replace H : (spec_Split.l0 k1 a0 a1 y104 (wrap64 (x7_1 + 1)) (wrap64 (x7_1 + 1))) = some r := yH H hy104
        have Ny104 := aM hy104
        clear hy104
        have H' := aM H
        clear H
        go_wp2_with (first | ((with_reducible refine gate_builtin (b := .append) (xs := #[.tmp 26, .tmp 31]) rfl ?_); at_builtin; refine Kd.R_append Kd.string (w0 := w) w.heap.size rfl (.tmp 26) (.tmp 31) 46 9 (.string ⟨#[]⟩) 16 rfl Tryd.underlying46 info9 rfl (by decide) (by omega) u5 x5_1 (a0.extract (x6_1 : Int).toNat (x7_1 : Int).toNat) [.string (a0.extract (x6_1 : Int).toNat (x7_1 : Int).toNat)] (fun _ => True) (fun _ => False) rfl rfl ?aP (fun _ hk => hk.elim) ?aF ?aO ?aB ?aS ?aL ?_; (case aP => exact rfl); (case aB => exact (hX HB.out)); (case aF => exact (fun _ _ => trivial)); (case aO => exact (rX HO_y1.out)); (case aS => exact (below_size (hX HB.out))); (case aL => have := LMc10.out; omega); intro vx1 wx1 ho hb hg hat; rw [← Ny104.out] at ho; have HOx1 := aM (ho); replace HB := aM (hb); clear HO_y1; clear ho hb hg hat))
        go_roundg k1
        case measure => have := HKy1.out; omega
        case rel => exact ⟨(y104), (wrap64 (x7_1 + 1)), (wrap64 (x7_1 + 1)), rS, rS, H', ⟨by have := HKy1.out; omega⟩, ⟨(rX HOx1.out)⟩, ⟨(hX HB.out)⟩⟩
      rw [if_neg c6] at H
      obtain ⟨c6b0, c6b1⟩ := eqF c6
      replace H := ifP H; obtain ⟨c12, H⟩ := H
      have c12b0 := decide_eq_true c12
      clear c12
      replace H := ifP H; obtain ⟨c13, H⟩ := H
      have c13b0 := decide_eq_true c13
      clear c13
      by_cases c15 : (bt a0 x7_1) = a1
      case neg =>
        rw [if_neg c15] at H
        obtain ⟨c15b0, c15b1⟩ := eqF c15
        have H' := aM H
        clear H
        have px1 : 0 ≤ (x7_1 : Int) := odA
        have qx1 : x7_1 < (a0.size : Int) := odA
        have hxx1 := bt_at a0 x7_1
        replace px1 := eq_true px1
        replace qx1 := eq_true qx1
        go_wp2
        go_roundg k1
        case measure => have := HKy1.out; omega
        case rel => exact ⟨(x5_1), (x6_1), (wrap64 (x7_1 + 1)), rS, rS, H', ⟨by have := HKy1.out; omega⟩, ⟨(rX HO_y1.out)⟩, ⟨(hX HB.out)⟩⟩
      rw [if_pos c15] at H
      obtain ⟨c15b0, c15b1⟩ := eqT c15
      clear c15
      replace H := ifP H; obtain ⟨c16, H⟩ := H
      have c16b0 := eq_true c16
      have c16b1 := decide_eq_true c16
      clear c16
      replace H := ifP H; obtain ⟨c17, H⟩ := H
      have c17b0 := eq_true c17
      have c17b1 := decide_eq_true c17
      clear c17
      have c18b0 := eq_true (odA : x7_1 ≤ (a0.size : Int))
      replace H := ifP H; obtain ⟨c19, H⟩ := H
      have LMc19 := aM c19
      clear c19
      obtain ⟨y107, hy107⟩ : ∃ y_ : List ByteArray, y_ = (x5_1 ++ [a0.extract (x6_1 : Int).toNat (x7_1 : Int).toNat]) := ⟨_, rfl⟩
      replace H : (spec_Split.l0 k1 a0 a1 y107 (wrap64 (x7_1 + 1)) (wrap64 (x7_1 + 1))) = some r := yH H hy107
      have Ny107 := aM hy107
      clear hy107
      have H' := aM H
      clear H
      have px1 : 0 ≤ (x7_1 : Int) := odA
      have qx1 : x7_1 < (a0.size : Int) := odA
      have hxx1 := bt_at a0 x7_1
      replace px1 := eq_true px1
      replace qx1 := eq_true qx1
      go_wp2_with (first | ((with_reducible refine gate_builtin (b := .append) (xs := #[.tmp 26, .tmp 31]) rfl ?_); at_builtin; refine Kd.R_append Kd.string (w0 := w) w.heap.size rfl (.tmp 26) (.tmp 31) 46 9 (.string ⟨#[]⟩) 16 rfl Tryd.underlying46 info9 rfl (by decide) (by omega) u5 x5_1 (a0.extract (x6_1 : Int).toNat (x7_1 : Int).toNat) [.string (a0.extract (x6_1 : Int).toNat (x7_1 : Int).toNat)] (fun _ => True) (fun _ => False) rfl rfl ?aP (fun _ hk => hk.elim) ?aF ?aO ?aB ?aS ?aL ?_; (case aP => exact rfl); (case aB => exact (hX HB.out)); (case aF => exact (fun _ _ => trivial)); (case aO => exact (rX HO_y1.out)); (case aS => exact (below_size (hX HB.out))); (case aL => have := LMc19.out; omega); intro vx1 wx1 ho hb hg hat; rw [← Ny107.out] at ho; have HOx1 := aM (ho); replace HB := aM (hb); clear HO_y1; clear ho hb hg hat))
      go_roundg k1
      case measure => have := HKy1.out; omega
      case rel => exact ⟨(y107), (wrap64 (x7_1 + 1)), (wrap64 (x7_1 + 1)), rS, rS, H', ⟨by have := HKy1.out; omega⟩, ⟨(rX HOx1.out)⟩, ⟨(hX HB.out)⟩⟩
mutual
def spec_Number.j0 : Nat → ByteArray → Bool → Option (Int × Bool)
  | 0, _, _ => none
  | k + 1, x0, x13 => if x13 = true then (some (0, false)) else (spec_Number.l0 k x0 0 0)
def spec_Number.l0 : Nat → ByteArray → Int → Int → Option (Int × Bool)
  | 0, _, _, _ => none
  | k + 1, x0, x4, x5 => if x5 < (x0.size : Int) then (if 0 ≤ x5 then (if (bt x0 x5) < 48 then (some (0, false)) else (if (bt x0 x5) > 57 then (some (0, false)) else (spec_Number.l0 k x0 (wrap64 ((wrap64 ((wrap64 (10 * x4)) + (wrap64 (bt x0 x5)))) - 48)) (wrap64 (x5 + 1))))) else (none)) else ((spec_Digits.f k x4).bind fun t101 => (if t101.toList = x0.toList then (some (x4, true)) else (some (0, false))))
end
def spec_Number.f (k : Nat) (a0 : ByteArray) : Option (Int × Bool) := if (a0.size : Int) < 1 then (spec_Number.j0 k a0 true) else (spec_Number.j0 k a0 (decide ((a0.size : Int) > 6)))
theorem spec_Number.mono_l : ∀ k, (∀ y0 y1, LeO (spec_Number.j0 k y0 y1) (spec_Number.j0 (k + 1) y0 y1)) ∧ (∀ y0 y1 y2, LeO (spec_Number.l0 k y0 y1 y2) (spec_Number.l0 (k + 1) y0 y1 y2))
  | 0 => ⟨fun _ _ r h => by simp [spec_Number.j0] at h, fun _ _ _ r h => by simp [spec_Number.l0] at h⟩
  | k + 1 => by
    obtain ⟨ih0, ih1⟩ := spec_Number.mono_l k
    refine ⟨?_, ?_⟩
    · intro y0 y1
      unfold spec_Number.j0
      repeat' first
      | (with_reducible exact ih0 _ _)
      | (with_reducible exact ih1 _ _ _)
      | (with_reducible exact spec_Digits.mono _ _)
      | (with_reducible exact LeO.refl _)
      | (with_reducible exact LeO.none _)
      | (with_reducible refine LeO.ite ?_ ?_)
      | (with_reducible refine LeO.bind ?_ (fun _ => ?_))
      | exact ih0 _ _
      | exact ih1 _ _ _
      | exact spec_Digits.mono _ _
      | exact LeO.none _
      | refine LeO.ite ?_ ?_
      | refine LeO.bind ?_ (fun _ => ?_)
    · intro y0 y1 y2
      unfold spec_Number.l0
      repeat' first
      | (with_reducible exact ih0 _ _)
      | (with_reducible exact ih1 _ _ _)
      | (with_reducible exact spec_Digits.mono _ _)
      | (with_reducible exact LeO.refl _)
      | (with_reducible exact LeO.none _)
      | (with_reducible refine LeO.ite ?_ ?_)
      | (with_reducible refine LeO.bind ?_ (fun _ => ?_))
      | exact ih0 _ _
      | exact ih1 _ _ _
      | exact spec_Digits.mono _ _
      | exact LeO.none _
      | refine LeO.ite ?_ ?_
      | refine LeO.bind ?_ (fun _ => ?_)
theorem spec_Number.mono : ∀ a0 k, LeO (spec_Number.f k a0) (spec_Number.f (k + 1) a0) := by
  intro a0 k
  obtain ⟨ih0, ih1⟩ := spec_Number.mono_l k
  unfold spec_Number.f
  repeat' first
      | (with_reducible exact ih0 _ _)
      | (with_reducible exact ih1 _ _ _)
      | (with_reducible exact spec_Digits.mono _ _)
      | (with_reducible exact LeO.refl _)
      | (with_reducible exact LeO.none _)
      | (with_reducible refine LeO.ite ?_ ?_)
      | (with_reducible refine LeO.bind ?_ (fun _ => ?_))
      | exact ih0 _ _
      | exact ih1 _ _ _
      | exact spec_Digits.mono _ _
      | exact LeO.none _
      | refine LeO.ite ?_ ?_
      | refine LeO.bind ?_ (fun _ => ?_)
set_option maxHeartbeats 8000000 in
set_option maxRecDepth 100000 in
theorem spec_Number.calls (k : Nat) (a0 : ByteArray) (r1 : Int) (r2 : Bool) (w : World) (h : spec_Number.f k a0 = some (r1, r2)) :
    Calls Tryd.prog 29 #[.string a0] w fun e w' => e = .returned (.tuple #[.int .i64 r1, .bool r2]) ∧ Below w.heap.size w w' := by
  have HB := aM (Below.refl w.heap.size w)
  have H := h
  unfold spec_Number.f at H
  clear h
  have HC2 := aM H
  clear H
  go_enter Tryd.func29, Tryd.ntmps29
  go_upto_region 1 with (fail)
  go_cut [13] (fun vz1 wc => ∃ (kq : Nat) (x13_1 : Bool), vz1 = .bool x13_1 ∧ Aside0 (spec_Number.j0 kq a0 x13_1 = some (r1, r2)) ∧ Aside0 (kq ≤ k) ∧ Aside0 (Below w.heap.size w wc))
  case first =>
    have H := HC2.out
    clear HC2
    by_cases c3 : (a0.size : Int) < 1
    · rw [if_pos c3] at H
      have c3b0 := decide_eq_true c3
      have c3b1 : decide (a0.size < 1) = true := decide_eq_true (by omega)
      clear c3
      (first | rw [c3b0] | (simp only [i64_w, i32_w]; rw [c3b0]) | skip)
      have H' := aM H
      clear H
      go_wp2
      go_meet
      case rel => exact ⟨_, (true), rS, H', ⟨by first | omega | exact Nat.le_refl _⟩, ⟨(hX HB.out)⟩⟩
    rw [if_neg c3] at H
    have c3b0 := decide_eq_false c3
    have c3b1 : decide (a0.size < 1) = false := decide_eq_false (by omega)
    clear c3
    (first | rw [c3b0] | (simp only [i64_w, i32_w]; rw [c3b0]) | skip)
    have H' := aM H
    clear H
    go_wp2
    go_meet
    case rel => exact ⟨_, (decide ((a0.size : Int) > 6)), rS, H', ⟨by first | omega | exact Nat.le_refl _⟩, ⟨(hX HB.out)⟩⟩
  case rest =>
    clear HC2
    try clear p2
    obtain ⟨kq, x13_1, rfl, HA, HJy1, HB⟩ := hcut
    cases kq with
    | zero => exact absurd HA.out (by simp [spec_Number.j0])
    | succ kj1 =>
      have H := HA.out
      clear HA
      simp only [spec_Number.j0] at H
      by_cases c4 : x13_1 = true
      · subst c4
        rw [if_pos rfl] at H
        simp only [Option.some.injEq, Prod.mk.injEq] at H
        obtain ⟨rfl, rfl⟩ := H
        go_wp2
        go_ret2
        exact ⟨rE, (hX HB.out)⟩
      replace c4 := Bool.eq_false_iff.mpr c4
      subst c4
      rw [if_neg nft] at H
      have H' := aM H
      clear H
      go_wp2
      go_loopg [4, 5] kj1 (fun kq v4 v5 w' => ∃ (x4_2 : Int) (x5_2 : Int), v4 = .int .i64 x4_2 ∧ v5 = .int .i64 x5_2 ∧ Aside0 (spec_Number.l0 kq a0 x4_2 x5_2 = some (r1, r2)) ∧ Aside0 (kq ≤ kj1) ∧ Aside0 (Below w.heap.size w w'))
      case atStart => exact ⟨(0), (0), rS, rS, H', ⟨Nat.le_refl _⟩, ⟨(hX HB.out)⟩⟩
      case round =>
        clear H'
        try clear p2
        try clear c4
        obtain ⟨x4_2, x5_2, rfl, rfl, HA, HKw1, HB⟩ := hrel
        cases gk with
        | zero => exact absurd HA.out (by simp [spec_Number.l0])
        | succ k2 =>
          have H := HA.out
          clear HA
          simp only [spec_Number.l0] at H
          by_cases c5 : x5_2 < (a0.size : Int)
          case neg =>
            rw [if_neg c5] at H
            have c5b0 := decide_eq_false c5
            clear c5
            replace H := bE H; obtain ⟨t101, A12, H⟩ := H
            go_wp2_with (first | (refine goesM 46 39 Tryd.func46 #[.int .i64 x4_2] ?_; refine (spec_Digits.calls _ _ _ _ A12.out).mono ?_; rintro e wv1 ⟨rfl, hb⟩; refine ⟨_, rfl, ?_⟩; replace HB := aS HB hb; clear hb; refine Stop.out ?_))
            refine ⟨?_⟩
            by_cases c13 : t101.toList = a0.toList
            case neg =>
              rw [if_neg c13] at H
              obtain ⟨c13b0, c13b1⟩ := eqF c13
              simp only [Option.some.injEq, Prod.mk.injEq] at H
              obtain ⟨rfl, rfl⟩ := H
              go_wp2
              go_ret2
              exact ⟨rE, (hX HB.out)⟩
            rw [if_pos c13] at H
            obtain ⟨c13b0, c13b1⟩ := eqT c13
            clear c13
            simp only [Option.some.injEq, Prod.mk.injEq] at H
            obtain ⟨rfl, rfl⟩ := H
            go_wp2
            go_ret2
            exact ⟨rE, (hX HB.out)⟩
          rw [if_pos c5] at H
          have c5b0 := decide_eq_true c5
          clear c5
          replace H := ifP H; obtain ⟨c6, H⟩ := H
          have c6b0 := decide_eq_true c6
          clear c6
          by_cases c8 : (bt a0 x5_2) < 48
          · rw [if_pos c8] at H
            have c8b0 := decide_eq_true c8
            clear c8
            simp only [Option.some.injEq, Prod.mk.injEq] at H
            obtain ⟨rfl, rfl⟩ := H
            have pv1 : 0 ≤ (x5_2 : Int) := odA
            have qv1 : x5_2 < (a0.size : Int) := odA
            have hxv1 := bt_at a0 x5_2
            replace pv1 := eq_true pv1
            replace qv1 := eq_true qv1
            go_wp2
            go_ret2
            exact ⟨rE, (hX HB.out)⟩
          rw [if_neg c8] at H
          have c8b0 := decide_eq_false c8
          clear c8
          by_cases c10 : (bt a0 x5_2) > 57
          · rw [if_pos c10] at H
            have c10b0 := decide_eq_true c10
            clear c10
            simp only [Option.some.injEq, Prod.mk.injEq] at H
            obtain ⟨rfl, rfl⟩ := H
            have pv1 : 0 ≤ (x5_2 : Int) := odA
            have qv1 : x5_2 < (a0.size : Int) := odA
            have hxv1 := bt_at a0 x5_2
            replace pv1 := eq_true pv1
            replace qv1 := eq_true qv1
            have pv2 : 0 ≤ (x5_2 : Int) := odA
            have qv2 : x5_2 < (a0.size : Int) := odA
            have hxv2 := bt_at a0 x5_2
            replace pv2 := eq_true pv2
            replace qv2 := eq_true qv2
            go_wp2
            go_ret2
            exact ⟨rE, (hX HB.out)⟩
          rw [if_neg c10] at H
          have c10b0 := decide_eq_false c10
          clear c10
          have H' := aM H
          clear H
          have pv1 : 0 ≤ (x5_2 : Int) := odA
          have qv1 : x5_2 < (a0.size : Int) := odA
          have hxv1 := bt_at a0 x5_2
          replace pv1 := eq_true pv1
          replace qv1 := eq_true qv1
          have pv2 : 0 ≤ (x5_2 : Int) := odA
          have qv2 : x5_2 < (a0.size : Int) := odA
          have hxv2 := bt_at a0 x5_2
          replace pv2 := eq_true pv2
          replace qv2 := eq_true qv2
          have pv3 : 0 ≤ (x5_2 : Int) := odA
          have qv3 : x5_2 < (a0.size : Int) := odA
          have hxv3 := bt_at a0 x5_2
          replace pv3 := eq_true pv3
          replace qv3 := eq_true qv3
          go_wp2
          go_roundg k2
          case measure => have := HJy1.out; have := HKw1.out; omega
          case rel => exact ⟨(wrap64 ((wrap64 ((wrap64 (10 * x4_2)) + (wrap64 (bt a0 x5_2)))) - 48)), (wrap64 (x5_2 + 1)), rS, rS, H', ⟨by have := HJy1.out; have := HKw1.out; omega⟩, ⟨(hX HB.out)⟩⟩
mutual
def spec_OpOf.l0 : Nat → ByteArray → List ByteArray → List ByteArray → Int → Option (Int × Int × Int × Bool)
  | 0, _, _, _, _ => none
  | k + 1, x0, x4, x5, x6 => if x6 < (x5.length : Int) then (if 0 ≤ x6 then (if 0 < (x4.length : Int) then (if (rdOf ByteArray.empty x5 x6).toList = (rdOf ByteArray.empty x4 0).toList then (if (x4.length : Int) > 1 then (if 1 < (x4.length : Int) then ((spec_Number.f k (rdOf ByteArray.empty x4 1)).bind fun bt112 => ((spec_l4Key.f x6).bind fun t114 => (if t114 = true then (spec_OpOf.j1 k x0 x4 x5 x6 x6 bt112.1 0) else (if x6 = 6 then (spec_OpOf.j1 k x0 x4 x5 x6 x6 bt112.1 0) else (spec_OpOf.j1 k x0 x4 x5 x6 x6 0 bt112.1))))) else (none)) else (spec_OpOf.j1 k x0 x4 x5 x6 x6 0 0)) else (spec_OpOf.l0 k x0 x4 x5 (wrap64 (x6 + 1)))) else (none)) else (none)) else (some (0, 0, 0, false))
def spec_OpOf.j1 : Nat → ByteArray → List ByteArray → List ByteArray → Int → Int → Int → Int → Option (Int × Int × Int × Bool)
  | 0, _, _, _, _, _, _, _ => none
  | k + 1, x0, x4, x5, x6, x111000, x111001, x111002 => if (x4.length : Int) > 2 then (if 2 < (x4.length : Int) then ((spec_Number.f k (rdOf ByteArray.empty x4 2)).bind fun bt116 => (spec_OpOf.j2 k x0 x4 x5 x6 x111000 x111001 bt116.1)) else (none)) else (spec_OpOf.j2 k x0 x4 x5 x6 x111000 x111001 x111002)
def spec_OpOf.j2 : Nat → ByteArray → List ByteArray → List ByteArray → Int → Int → Int → Int → Option (Int × Int × Int × Bool)
  | 0, _, _, _, _, _, _, _ => none
  | k + 1, x0, x4, x5, x6, x111000, x111001, x111002 => (spec_OpOk.f k x111000 x111001 x111002).bind fun t118 => (if t118 = true then ((spec_OpText.f k x111000 x111001 x111002).bind fun t119 => (if t119.toList = x0.toList then (some (x111000, x111001, x111002, true)) else (spec_OpOf.l0 k x0 x4 x5 (wrap64 (x6 + 1))))) else (spec_OpOf.l0 k x0 x4 x5 (wrap64 (x6 + 1))))
end
def spec_OpOf.f (k : Nat) (a0 : ByteArray) : Option (Int × Int × Int × Bool) := (spec_Split.f k a0 32).bind fun t102 => ((spec_l14Names.f).bind fun t105 => (spec_OpOf.l0 k a0 t102 t105 1))
theorem spec_OpOf.mono_l : ∀ k, (∀ y0 y1 y2 y3, LeO (spec_OpOf.l0 k y0 y1 y2 y3) (spec_OpOf.l0 (k + 1) y0 y1 y2 y3)) ∧ (∀ y0 y1 y2 y3 y4 y5 y6, LeO (spec_OpOf.j1 k y0 y1 y2 y3 y4 y5 y6) (spec_OpOf.j1 (k + 1) y0 y1 y2 y3 y4 y5 y6)) ∧ (∀ y0 y1 y2 y3 y4 y5 y6, LeO (spec_OpOf.j2 k y0 y1 y2 y3 y4 y5 y6) (spec_OpOf.j2 (k + 1) y0 y1 y2 y3 y4 y5 y6))
  | 0 => ⟨fun _ _ _ _ r h => by simp [spec_OpOf.l0] at h, fun _ _ _ _ _ _ _ r h => by simp [spec_OpOf.j1] at h, fun _ _ _ _ _ _ _ r h => by simp [spec_OpOf.j2] at h⟩
  | k + 1 => by
    obtain ⟨ih0, ih1, ih2⟩ := spec_OpOf.mono_l k
    refine ⟨?_, ?_, ?_⟩
    · intro y0 y1 y2 y3
      unfold spec_OpOf.l0
      repeat' first
      | (with_reducible exact ih0 _ _ _ _)
      | (with_reducible exact ih1 _ _ _ _ _ _ _)
      | (with_reducible exact ih2 _ _ _ _ _ _ _)
      | (with_reducible exact spec_Number.mono _ _)
      | (with_reducible exact spec_OpOk.mono _ _ _ _)
      | (with_reducible exact spec_OpText.mono _ _ _ _)
      | (with_reducible exact spec_Split.mono _ _ _)
      | (with_reducible exact LeO.refl _)
      | (with_reducible exact LeO.none _)
      | (with_reducible refine LeO.ite ?_ ?_)
      | (with_reducible refine LeO.bind ?_ (fun _ => ?_))
      | exact ih0 _ _ _ _
      | exact ih1 _ _ _ _ _ _ _
      | exact ih2 _ _ _ _ _ _ _
      | exact spec_Number.mono _ _
      | exact spec_OpOk.mono _ _ _ _
      | exact spec_OpText.mono _ _ _ _
      | exact spec_Split.mono _ _ _
      | exact LeO.none _
      | refine LeO.ite ?_ ?_
      | refine LeO.bind ?_ (fun _ => ?_)
    · intro y0 y1 y2 y3 y4 y5 y6
      unfold spec_OpOf.j1
      repeat' first
      | (with_reducible exact ih0 _ _ _ _)
      | (with_reducible exact ih1 _ _ _ _ _ _ _)
      | (with_reducible exact ih2 _ _ _ _ _ _ _)
      | (with_reducible exact spec_Number.mono _ _)
      | (with_reducible exact spec_OpOk.mono _ _ _ _)
      | (with_reducible exact spec_OpText.mono _ _ _ _)
      | (with_reducible exact spec_Split.mono _ _ _)
      | (with_reducible exact LeO.refl _)
      | (with_reducible exact LeO.none _)
      | (with_reducible refine LeO.ite ?_ ?_)
      | (with_reducible refine LeO.bind ?_ (fun _ => ?_))
      | exact ih0 _ _ _ _
      | exact ih1 _ _ _ _ _ _ _
      | exact ih2 _ _ _ _ _ _ _
      | exact spec_Number.mono _ _
      | exact spec_OpOk.mono _ _ _ _
      | exact spec_OpText.mono _ _ _ _
      | exact spec_Split.mono _ _ _
      | exact LeO.none _
      | refine LeO.ite ?_ ?_
      | refine LeO.bind ?_ (fun _ => ?_)
    · intro y0 y1 y2 y3 y4 y5 y6
      unfold spec_OpOf.j2
      repeat' first
      | (with_reducible exact ih0 _ _ _ _)
      | (with_reducible exact ih1 _ _ _ _ _ _ _)
      | (with_reducible exact ih2 _ _ _ _ _ _ _)
      | (with_reducible exact spec_Number.mono _ _)
      | (with_reducible exact spec_OpOk.mono _ _ _ _)
      | (with_reducible exact spec_OpText.mono _ _ _ _)
      | (with_reducible exact spec_Split.mono _ _ _)
      | (with_reducible exact LeO.refl _)
      | (with_reducible exact LeO.none _)
      | (with_reducible refine LeO.ite ?_ ?_)
      | (with_reducible refine LeO.bind ?_ (fun _ => ?_))
      | exact ih0 _ _ _ _
      | exact ih1 _ _ _ _ _ _ _
      | exact ih2 _ _ _ _ _ _ _
      | exact spec_Number.mono _ _
      | exact spec_OpOk.mono _ _ _ _
      | exact spec_OpText.mono _ _ _ _
      | exact spec_Split.mono _ _ _
      | exact LeO.none _
      | refine LeO.ite ?_ ?_
      | refine LeO.bind ?_ (fun _ => ?_)
theorem spec_OpOf.mono : ∀ a0 k, LeO (spec_OpOf.f k a0) (spec_OpOf.f (k + 1) a0) := by
  intro a0 k
  obtain ⟨ih0, ih1, ih2⟩ := spec_OpOf.mono_l k
  unfold spec_OpOf.f
  repeat' first
      | (with_reducible exact ih0 _ _ _ _)
      | (with_reducible exact ih1 _ _ _ _ _ _ _)
      | (with_reducible exact ih2 _ _ _ _ _ _ _)
      | (with_reducible exact spec_Number.mono _ _)
      | (with_reducible exact spec_OpOk.mono _ _ _ _)
      | (with_reducible exact spec_OpText.mono _ _ _ _)
      | (with_reducible exact spec_Split.mono _ _ _)
      | (with_reducible exact LeO.refl _)
      | (with_reducible exact LeO.none _)
      | (with_reducible refine LeO.ite ?_ ?_)
      | (with_reducible refine LeO.bind ?_ (fun _ => ?_))
      | exact ih0 _ _ _ _
      | exact ih1 _ _ _ _ _ _ _
      | exact ih2 _ _ _ _ _ _ _
      | exact spec_Number.mono _ _
      | exact spec_OpOk.mono _ _ _ _
      | exact spec_OpText.mono _ _ _ _
      | exact spec_Split.mono _ _ _
      | exact LeO.none _
      | refine LeO.ite ?_ ?_
      | refine LeO.bind ?_ (fun _ => ?_)
set_option maxHeartbeats 8000000 in
set_option maxRecDepth 100000 in
theorem spec_OpOf.calls (k : Nat) (a0 : ByteArray) (r1 : Int) (r2 : Int) (r3 : Int) (r4 : Bool) (w : World) (h : spec_OpOf.f k a0 = some (r1, r2, r3, r4)) :
    Calls Tryd.prog 6 #[.string a0] w fun e w' => e = .returned (.tuple #[.agg #[.int .i64 r1, .int .i64 r2, .int .i64 r3], .bool r4]) ∧ Below w.heap.size w w' := by
  have hu23 := Tryd.underlying23
  have HB := aM (Below.refl w.heap.size w)
  have H := h
  unfold spec_OpOf.f at H
  clear h
  replace H := bE H; obtain ⟨t102, A2, H⟩ := H
  replace H := bE H; obtain ⟨t105, A3, H⟩ := H
  have H' := aM H
  clear H
  go_enter Tryd.func6, Tryd.ntmps6
  go_wp2_with (first | (refine boxE 2 #[.int .i64 0, .int .i64 0, .int .i64 0] 23 ?_; intro gbz1 hg wz1 hbox hb; have BKz1 := aM (hbox); have GWz1 := aG hg HB; have GEz1 := aG hg HB; replace HB := aS HB hb; clear hb hbox hg) | (go_at_call 27; (with_reducible refine (spec_Split.calls _ _ _ _ _ A2.out).mono ?_); rintro e wz2 ⟨vz1, rfl, hoz1, hb⟩; have HOz1 := aM (Kd.R_lower hoz1 (below_size (hX HB.out))); replace BKz1 := aB BKz1 hb; replace HB := aS HB hb; clear hb hoz1) | (go_at_call 28; (with_reducible refine (spec_l14Names.calls _ _ A3.out).mono ?_); rintro e wz3 ⟨vz2, rfl, hoz1, hb⟩; have HOz2 := aM (Kd.R_lower (Kd.R_new' hoz1 (Kd.R_lt (rX HOz1.out))) (below_size (hX HB.out))); replace HOz1 := aM (Kd.R_elder' (rX HOz1.out) (Kd.R_base hoz1) hb); replace BKz1 := aB BKz1 hb; replace HB := aS HB hb; clear hb hoz1))
  repeat (go_quiet (fail); try go_wp2_with (first | ((with_reducible refine gate_dst (N := 2) rfl ?_); refine boxF 2 #[.int .i64 0, .int .i64 0, .int .i64 0] 23 ?_; intro gbz1 hg wz1 hbox hb; have BKz1 := aM (hbox); have GWz1 := aG hg HB; have GEz1 := aG hg HB; replace HB := aS HB hb; clear hb hbox hg) | (go_at_call 27; (with_reducible refine (spec_Split.calls _ _ _ _ _ A2.out).mono ?_); rintro e wz2 ⟨vz1, rfl, hoz1, hb⟩; have HOz1 := aM (Kd.R_lower hoz1 (below_size (hX HB.out))); replace BKz1 := aB BKz1 hb; replace HB := aS HB hb; clear hb hoz1) | (go_at_call 28; (with_reducible refine (spec_l14Names.calls _ _ A3.out).mono ?_); rintro e wz3 ⟨vz2, rfl, hoz1, hb⟩; have HOz2 := aM (Kd.R_lower (Kd.R_new' hoz1 (Kd.R_lt (rX HOz1.out))) (below_size (hX HB.out))); replace HOz1 := aM (Kd.R_elder' (rX HOz1.out) (Kd.R_base hoz1) hb); replace BKz1 := aB BKz1 hb; replace HB := aS HB hb; clear hb hoz1)))
  go_loopg [6] k (fun kq v6 w' => ∃ (x6_1 : Int) (x102000_1 : Int) (x102001_1 : Int) (x102002_1 : Int), v6 = .int .i64 x6_1 ∧ Aside0 (spec_OpOf.l0 kq a0 t102 t105 x6_1 = some (r1, r2, r3, r4)) ∧ Aside0 (kq ≤ k) ∧ Aside0 (Kd.R Kd.string 9 w' w.heap.size (fun k_ => some k_ ≠ (vz2 : Value).ownBlock) vz1 t102) ∧ Aside0 (Kd.R Kd.string 9 w' w.heap.size (fun k_ => some k_ ≠ (vz1 : Value).ownBlock) vz2 t105) ∧ Aside0 (w'.heap[gbz1]? = some (.cells #[.int .i64 x102000_1, .int .i64 x102001_1, .int .i64 x102002_1] 23 (0, 0))) ∧ Aside0 (Below w.heap.size w w'))
  case atStart => exact ⟨(1), (0), (0), (0), rS, H', ⟨Nat.le_refl _⟩, ⟨(rT (h := by exact Kd.R_mono HOz1.out (fun _ hk => hk.2)))⟩, ⟨(rT (h := by exact Kd.R_mono HOz2.out (fun _ hk => hk.2)))⟩, ⟨(bX BKz1.out)⟩, ⟨(hX HB.out)⟩⟩
  case round =>
    clear H'
    try clear p2
    obtain ⟨x6_1, x102000_1, x102001_1, x102002_1, rfl, HA, HKy1, HO_y1, HO_y2, BKz1, HB⟩ := hrel
    cases gk with
    | zero => exact absurd HA.out (by simp [spec_OpOf.l0])
    | succ k1 =>
      have H := HA.out
      clear HA
      simp only [spec_OpOf.l0] at H
      by_cases c7 : x6_1 < (t105.length : Int)
      case neg =>
        rw [if_neg c7] at H
        have c7b0 := decide_eq_false c7
        clear c7
        simp only [Option.some.injEq, Prod.mk.injEq] at H
        obtain ⟨rfl, rfl, rfl, rfl⟩ := H
        obtain ⟨Aox1, cox1, eox1⟩ := Kd.R_slice HO_y2.out
        subst eox1
        obtain ⟨hczx1, hczx2, hczx3, hfzx1, hfzx2, hfzx3⟩ := cZ3 BKz1.out
        go_wp2
        repeat (go_quiet (fail); try go_wp2)
        refine bodyPost_ret (results_ct rfl _ _ gbz1 23 #[.int .i64 0, .int .i64 0, .int .i64 0] (0, 0) _ rfl (bP BKz1.out) Tryd.underlying23 rfl (by kernel_rfl)) rfl ?_
        exact ⟨rE, (hX HB.out)⟩
      rw [if_pos c7] at H
      have c7b0 := decide_eq_true c7
      clear c7
      replace H := ifP H; obtain ⟨c8, H⟩ := H
      have c8b0 := decide_eq_true c8
      clear c8
      replace H := ifP H; obtain ⟨c9, H⟩ := H
      have c9b0 := decide_eq_true c9
      have c9b1 : decide (0 < t102.length) = true := decide_eq_true (by omega)
      clear c9
      by_cases c10 : (rdOf ByteArray.empty t105 x6_1).toList = (rdOf ByteArray.empty t102 0).toList
      case neg =>
        rw [if_neg c10] at H
        obtain ⟨c10b0, c10b1⟩ := eqF c10
        have H' := aM H
        clear H
        obtain ⟨Aox1, cox1, eox1⟩ := Kd.R_slice HO_y2.out
        subst eox1
        have px1 : 0 ≤ (x6_1 : Int) := odA
        have qx1 : x6_1 < (t105.length : Int) := odA
        obtain ⟨adx1, ex1, hxx1⟩ := Kd.at_string (Kd.R_reads' HO_y2.out).2.2 x6_1 px1 qx1
        cases ex1
        replace px1 := eq_true px1
        replace qx1 := eq_true qx1
        obtain ⟨Aox2, cox2, eox2⟩ := Kd.R_slice HO_y1.out
        subst eox2
        have px2 : 0 ≤ (0 : Int) := (by omega)
        have qx2 : 0 < (t102.length : Int) := odA
        obtain ⟨adx2, ex2, hxx2⟩ := Kd.at_string (Kd.R_reads' HO_y1.out).2.2 0 px2 qx2
        cases ex2
        have qix1 : (0 < t102.length) = True := eq_true (by omega)
        (try rw [show ((0 : Int)).toNat = 0 from rfl] at hxx2)
        (try rw [Addr.add_zero'] at hxx2)
        replace px2 := eq_true px2
        replace qx2 := eq_true qx2
        go_wp2
        repeat (go_quiet (fail); try go_wp2)
        go_roundg k1
        case measure => have := HKy1.out; omega
        case rel => exact ⟨(wrap64 (x6_1 + 1)), (x102000_1), (x102001_1), (x102002_1), rS, H', ⟨by have := HKy1.out; omega⟩, ⟨(rX HO_y1.out)⟩, ⟨(rX HO_y2.out)⟩, ⟨(bX BKz1.out)⟩, ⟨(hX HB.out)⟩⟩
      rw [if_pos c10] at H
      obtain ⟨c10b0, c10b1⟩ := eqT c10
      clear c10
      have HC11 := aM H
      clear H
      obtain ⟨Aox1, cox1, eox1⟩ := Kd.R_slice HO_y2.out
      subst eox1
      have px1 : 0 ≤ (x6_1 : Int) := odA
      have qx1 : x6_1 < (t105.length : Int) := odA
      obtain ⟨adx1, ex1, hxx1⟩ := Kd.at_string (Kd.R_reads' HO_y2.out).2.2 x6_1 px1 qx1
      cases ex1
      replace px1 := eq_true px1
      replace qx1 := eq_true qx1
      obtain ⟨Aox2, cox2, eox2⟩ := Kd.R_slice HO_y1.out
      subst eox2
      have px2 : 0 ≤ (0 : Int) := (by omega)
      have qx2 : 0 < (t102.length : Int) := odA
      obtain ⟨adx2, ex2, hxx2⟩ := Kd.at_string (Kd.R_reads' HO_y1.out).2.2 0 px2 qx2
      cases ex2
      have qix1 : (0 < t102.length) = True := eq_true (by omega)
      (try rw [show ((0 : Int)).toNat = 0 from rfl] at hxx2)
      (try rw [Addr.add_zero'] at hxx2)
      replace px2 := eq_true px2
      replace qx2 := eq_true qx2
      go_upto_if 31 with (first | ((with_reducible refine gate_dst (N := 7) rfl ?_); refine boxE 7 #[.int .i64 0, .int .i64 0, .int .i64 0] 23 ?_; intro gbx1 hg wx1 hbox hb; have BKx1 := aM (hbox); have GWx1 := aG hg HB; have GEx1 := aG hg HB; have NBx1 := aL hg BKz1; have NBx2 := aR hg BKz1; replace HO_y1 := aQ HO_y1 hb; replace HO_y2 := aQ HO_y2 hb; replace BKz1 := aB BKz1 hb; replace HB := aS HB hb; clear hb hbox hg; have hnbx1 := NBx2.out; have hncx1 := NBx1.out; obtain ⟨hczx1, hczx2, hczx3, hfzx1, hfzx2, hfzx3⟩ := cZ3 BKx1.out))
      repeat (go_quiet (fail); go_upto_if 31 with (first | ((with_reducible refine gate_dst (N := 7) rfl ?_); refine boxF 7 #[.int .i64 0, .int .i64 0, .int .i64 0] 23 ?_; intro gbx1 hg wx1 hbox hb; have BKx1 := aM (hbox); have GWx1 := aG hg HB; have GEx1 := aG hg HB; have NBx1 := aL hg BKz1; have NBx2 := aR hg BKz1; replace HO_y1 := aQ HO_y1 hb; replace HO_y2 := aQ HO_y2 hb; replace BKz1 := aB BKz1 hb; replace HB := aS HB hb; clear hb hbox hg; have hnbx1 := NBx2.out; have hncx1 := NBx1.out; obtain ⟨hczx1, hczx2, hczx3, hfzx1, hfzx2, hfzx3⟩ := cZ3 BKx1.out)))
      (try simp only [Act.put, List.setIfInBounds_toArray, List.set_cons_zero, List.set_cons_succ])
      go_cut [] (fun wc => ∃ (kq : Nat) (x111001_10 : Int) (x111002_10 : Int), Aside0 (spec_OpOf.j1 kq a0 t102 t105 x6_1 x6_1 x111001_10 x111002_10 = some (r1, r2, r3, r4)) ∧ Aside0 (kq ≤ k1) ∧ Aside0 (Kd.R Kd.string 9 wc w.heap.size (fun k_ => some k_ ≠ ((.slice (some adx1) t105.length cox1) : Value).ownBlock) (.slice (some adx2) t102.length cox2) t102) ∧ Aside0 (Kd.R Kd.string 9 wc w.heap.size (fun k_ => some k_ ≠ ((.slice (some adx2) t102.length cox2) : Value).ownBlock) (.slice (some adx1) t105.length cox1) t105) ∧ Aside0 (wc.heap[gbz1]? = some (.cells #[.int .i64 x102000_1, .int .i64 x102001_1, .int .i64 x102002_1] 23 (0, 0))) ∧ Aside0 (wc.heap[gbx1]? = some (.cells #[.int .i64 x6_1, .int .i64 x111001_10, .int .i64 x111002_10] 23 (0, 0))) ∧ Aside0 (Below w.heap.size w wc))
      case first =>
        have H := HC11.out
        clear HC11
        by_cases c17 : (t102.length : Int) > 1
        case neg =>
          rw [if_neg c17] at H
          have c17b0 := decide_eq_false c17
          have c17b1 : decide (1 < t102.length) = false := decide_eq_false (by omega)
          clear c17
          (first | rw [c17b0] | (simp only [i64_w, i32_w]; rw [c17b0]) | skip)
          have H' := aM H
          clear H
          go_wp2
          repeat (go_quiet (fail); try go_wp2)
          go_meet
          case rel => exact ⟨_, (0), (0), H', ⟨by have := HKy1.out; first | omega | exact Nat.le_refl _⟩, ⟨(rT (h := by exact Kd.R_mono (Kd.R_far (p := ⟨gbx1, 2, none⟩) (Kd.R_far (p := ⟨gbx1, 1, none⟩) (Kd.R_far (p := ⟨gbx1, 0, none⟩) (Kd.R_types HO_y1.out BKx1.out (by decide)) (fun _ hk => hk.2) (.int .i64 x6_1)) (fun _ hk => hk.2) (.int .i64 0)) (fun _ hk => hk.2) (.int .i64 0)) (fun _ hk => hk.1)))⟩, ⟨(rT (h := by exact Kd.R_mono (Kd.R_far (p := ⟨gbx1, 2, none⟩) (Kd.R_far (p := ⟨gbx1, 1, none⟩) (Kd.R_far (p := ⟨gbx1, 0, none⟩) (Kd.R_types HO_y2.out BKx1.out (by decide)) (fun _ hk => hk.2) (.int .i64 x6_1)) (fun _ hk => hk.2) (.int .i64 0)) (fun _ hk => hk.2) (.int .i64 0)) (fun _ hk => hk.1)))⟩, ⟨(bF BKz1.out)⟩, ⟨(bP BKx1.out)⟩, ⟨(hX HB.out)⟩⟩
        rw [if_pos c17] at H
        have c17b0 := decide_eq_true c17
        have c17b1 : decide (1 < t102.length) = true := decide_eq_true (by omega)
        clear c17
        (first | rw [c17b0] | (simp only [i64_w, i32_w]; rw [c17b0]) | skip)
        replace H := ifP H; obtain ⟨c18, H⟩ := H
        have c18b0 := decide_eq_true c18
        have c18b1 : decide (1 < t102.length) = true := decide_eq_true (by omega)
        clear c18
        replace H := bE H; obtain ⟨⟨t112, t113⟩, A19, H⟩ := H
        try dsimp only at H
        replace H := bE H; obtain ⟨t114, A20, H⟩ := H
        have pw1 : 0 ≤ (1 : Int) := (by omega)
        have qw1 : 1 < (t102.length : Int) := odA
        obtain ⟨adw1, ew1, hxw1⟩ := Kd.at_string (Kd.R_reads' HO_y1.out).2.2 1 pw1 qw1
        obtain rfl : adx2 = adw1 := (by injection ew1)
        (try simp only [show (1 : Int).toNat = 1 from rfl, Nat.reduceMul, Nat.reduceEqDiff, Go.Addr.add, ↓reduceIte] at hxw1)
        have qiw1 : (1 < t102.length) = True := eq_true (by omega)
        (try rw [show ((1 : Int)).toNat = 1 from rfl] at hxw1)
        have hnw1 : adx2.block ≠ gbx1 := Kd.own_blk (Kd.R_ne HO_y1.out BKx1.out (by decide))
        have hnw2 : adx2.block ≠ gbx1 := Kd.own_blk (Kd.R_ne HO_y1.out BKx1.out (by decide))
        have hnw3 : adx2.block ≠ gbx1 := Kd.own_blk (Kd.R_ne HO_y1.out BKx1.out (by decide))
        replace hxw1 := (cell_far (p := ⟨gbx1, 0, none⟩) (by first | (rw [add_block]; exact hnw1) | (show (Addr.add _ _).block ≠ _; rw [add_block]; exact hnw1) | exact hnw1) (.int .i64 x6_1)).trans hxw1
        replace hxw1 := (cell_far (p := ⟨gbx1, 1, none⟩) (by first | (rw [add_block]; exact hnw2) | (show (Addr.add _ _).block ≠ _; rw [add_block]; exact hnw2) | exact hnw2) (.int .i64 0)).trans hxw1
        replace hxw1 := (cell_far (p := ⟨gbx1, 2, none⟩) (by first | (rw [add_block]; exact hnw3) | (show (Addr.add _ _).block ≠ _; rw [add_block]; exact hnw3) | exact hnw3) (.int .i64 0)).trans hxw1
        (try have hy111_0 := fun (n_ : Nat) => (show (((((wx1.drewN n_).setCell ⟨gbx1, 0, none⟩ (.int .i64 x6_1)).setCell ⟨gbx1, 1, none⟩ (.int .i64 0)).setCell ⟨gbx1, 2, none⟩ (.int .i64 0))).cell? _ = some _ from hxw1))
        clear hnw1
        clear hnw2
        clear hnw3
        replace pw1 := eq_true pw1
        replace qw1 := eq_true qw1
        go_wp2_with (first | (go_at_call 29; (with_reducible refine (spec_Number.calls _ _ _ _ _ A19.out).mono ?_); rintro e ww1 ⟨rfl, hb⟩; replace HO_y1 := aM (Kd.R_below (rF HO_y1.out BKx1.out) hb); replace HO_y2 := aM (Kd.R_below (rF HO_y2.out BKx1.out) hb); replace BKz1 := aF BKz1 hb; replace BKx1 := aM (blk_below (g := gbx1) (o := .cells #[.int .i64 x6_1, .int .i64 0, .int .i64 0] 23 (0, 0)) (bP BKx1.out) hb); replace HB := aS HB hb; clear hb; refine Stop.out ?_))
        refine ⟨?_⟩
        by_cases c21 : t114 = true
        · subst c21
          rw [if_pos rfl] at H
          have H' := aM H
          clear H
          go_wp2_with (first | (go_at_call 30; (with_reducible refine (spec_l4Key.calls _ _ _ A20.out).mono ?_); rintro e w' ⟨rfl, ⟨nd, rfl⟩⟩; (try first | exact ⟨rfl, _, World.drewN_drewN _ _ _⟩ | exact ⟨rfl, _, Eq.trans (World.drewN_drewN _ _ _) (congrArg (World.drewN _) (Nat.add_assoc _ _ _))⟩); have hnbw1 := NBx2.out; have hncw1 := NBx1.out; obtain ⟨hczw1, hczw2, hczw3, hfzw1, hfzw2, hfzw3⟩ := cZ3 BKx1.out))
          repeat (go_quiet (fail); try go_wp2_with (first | (go_at_call 29; (with_reducible refine (spec_Number.calls _ _ _ _ _ A19.out).mono ?_); rintro e ww1 ⟨rfl, hb⟩; replace HO_y1 := aM (Kd.R_below (rF HO_y1.out BKx1.out) hb); replace HO_y2 := aM (Kd.R_below (rF HO_y2.out BKx1.out) hb); replace BKz1 := aF BKz1 hb; replace BKx1 := aM (blk_below (g := gbx1) (o := .cells #[.int .i64 x6_1, .int .i64 0, .int .i64 0] 23 (0, 0)) (bP BKx1.out) hb); replace HB := aS HB hb; clear hb) | (go_at_call 30; (with_reducible refine (spec_l4Key.calls _ _ _ A20.out).mono ?_); rintro e w' ⟨rfl, ⟨nd, rfl⟩⟩; (try first | exact ⟨rfl, _, World.drewN_drewN _ _ _⟩ | exact ⟨rfl, _, Eq.trans (World.drewN_drewN _ _ _) (congrArg (World.drewN _) (Nat.add_assoc _ _ _))⟩); have hnbw1 := NBx2.out; have hncw1 := NBx1.out; obtain ⟨hczw1, hczw2, hczw3, hfzw1, hfzw2, hfzw3⟩ := cZ3 BKx1.out)))
          go_meet
          case rel => exact ⟨_, (t112), (0), H', ⟨by have := HKy1.out; first | omega | exact Nat.le_refl _⟩, ⟨(rT (h := by exact Kd.R_mono (Kd.R_far (p := ⟨gbx1, 1, none⟩) (Kd.R_types HO_y1.out BKx1.out (by decide)) (fun _ hk => hk.2) (.int .i64 t112)) (fun _ hk => hk.1)))⟩, ⟨(rT (h := by exact Kd.R_mono (Kd.R_far (p := ⟨gbx1, 1, none⟩) (Kd.R_types HO_y2.out BKx1.out (by decide)) (fun _ hk => hk.2) (.int .i64 t112)) (fun _ hk => hk.1)))⟩, ⟨(bF BKz1.out)⟩, ⟨(bP BKx1.out)⟩, ⟨(hX HB.out)⟩⟩
        replace c21 := Bool.eq_false_iff.mpr c21
        subst c21
        rw [if_neg nft] at H
        go_wp2_with (first | (go_at_call 30; (with_reducible refine (spec_l4Key.calls _ _ _ A20.out).mono ?_); rintro e w' ⟨rfl, ⟨nd, rfl⟩⟩; (try first | exact ⟨rfl, _, World.drewN_drewN _ _ _⟩ | exact ⟨rfl, _, Eq.trans (World.drewN_drewN _ _ _) (congrArg (World.drewN _) (Nat.add_assoc _ _ _))⟩); have hnbw1 := NBx2.out; have hncw1 := NBx1.out; obtain ⟨hczw1, hczw2, hczw3, hfzw1, hfzw2, hfzw3⟩ := cZ3 BKx1.out; refine Stop.out ?_))
        refine ⟨?_⟩
        by_cases c25 : x6_1 = 6
        case neg =>
          rw [if_neg c25] at H
          obtain ⟨c25b0, c25b1⟩ := eqF c25
          have H' := aM H
          clear H
          go_wp2
          repeat (go_quiet (fail); try go_wp2_with (first | (go_at_call 29; (with_reducible refine (spec_Number.calls _ _ _ _ _ A19.out).mono ?_); rintro e ww1 ⟨rfl, hb⟩; replace HO_y1 := aM (Kd.R_below (rF HO_y1.out BKx1.out) hb); replace HO_y2 := aM (Kd.R_below (rF HO_y2.out BKx1.out) hb); replace BKz1 := aF BKz1 hb; replace BKx1 := aM (blk_below (g := gbx1) (o := .cells #[.int .i64 x6_1, .int .i64 0, .int .i64 0] 23 (0, 0)) (bP BKx1.out) hb); replace HB := aS HB hb; clear hb) | (go_at_call 30; (with_reducible refine (spec_l4Key.calls _ _ _ A20.out).mono ?_); rintro e w' ⟨rfl, ⟨nd, rfl⟩⟩; (try first | exact ⟨rfl, _, World.drewN_drewN _ _ _⟩ | exact ⟨rfl, _, Eq.trans (World.drewN_drewN _ _ _) (congrArg (World.drewN _) (Nat.add_assoc _ _ _))⟩); have hnbw1 := NBx2.out; have hncw1 := NBx1.out; obtain ⟨hczw1, hczw2, hczw3, hfzw1, hfzw2, hfzw3⟩ := cZ3 BKx1.out)))
          go_meet
          case rel => exact ⟨_, (0), (t112), H', ⟨by have := HKy1.out; first | omega | exact Nat.le_refl _⟩, ⟨(rT (h := by exact Kd.R_mono (Kd.R_far (p := ⟨gbx1, 2, none⟩) (Kd.R_types HO_y1.out BKx1.out (by decide)) (fun _ hk => hk.2) (.int .i64 t112)) (fun _ hk => hk.1)))⟩, ⟨(rT (h := by exact Kd.R_mono (Kd.R_far (p := ⟨gbx1, 2, none⟩) (Kd.R_types HO_y2.out BKx1.out (by decide)) (fun _ hk => hk.2) (.int .i64 t112)) (fun _ hk => hk.1)))⟩, ⟨(bF BKz1.out)⟩, ⟨(bP BKx1.out)⟩, ⟨(hX HB.out)⟩⟩
        rw [if_pos c25] at H
        obtain ⟨c25b0, c25b1⟩ := eqT c25
        clear c25
        have H' := aM H
        clear H
        go_wp2
        repeat (go_quiet (fail); try go_wp2_with (first | (go_at_call 29; (with_reducible refine (spec_Number.calls _ _ _ _ _ A19.out).mono ?_); rintro e ww1 ⟨rfl, hb⟩; replace HO_y1 := aM (Kd.R_below (rF HO_y1.out BKx1.out) hb); replace HO_y2 := aM (Kd.R_below (rF HO_y2.out BKx1.out) hb); replace BKz1 := aF BKz1 hb; replace BKx1 := aM (blk_below (g := gbx1) (o := .cells #[.int .i64 x6_1, .int .i64 0, .int .i64 0] 23 (0, 0)) (bP BKx1.out) hb); replace HB := aS HB hb; clear hb) | (go_at_call 30; (with_reducible refine (spec_l4Key.calls _ _ _ A20.out).mono ?_); rintro e w' ⟨rfl, ⟨nd, rfl⟩⟩; (try first | exact ⟨rfl, _, World.drewN_drewN _ _ _⟩ | exact ⟨rfl, _, Eq.trans (World.drewN_drewN _ _ _) (congrArg (World.drewN _) (Nat.add_assoc _ _ _))⟩); have hnbw1 := NBx2.out; have hncw1 := NBx1.out; obtain ⟨hczw1, hczw2, hczw3, hfzw1, hfzw2, hfzw3⟩ := cZ3 BKx1.out)))
        go_meet
        case rel => exact ⟨_, (t112), (0), H', ⟨by have := HKy1.out; first | omega | exact Nat.le_refl _⟩, ⟨(rT (h := by exact Kd.R_mono (Kd.R_far (p := ⟨gbx1, 1, none⟩) (Kd.R_types HO_y1.out BKx1.out (by decide)) (fun _ hk => hk.2) (.int .i64 t112)) (fun _ hk => hk.1)))⟩, ⟨(rT (h := by exact Kd.R_mono (Kd.R_far (p := ⟨gbx1, 1, none⟩) (Kd.R_types HO_y2.out BKx1.out (by decide)) (fun _ hk => hk.2) (.int .i64 t112)) (fun _ hk => hk.1)))⟩, ⟨(bF BKz1.out)⟩, ⟨(bP BKx1.out)⟩, ⟨(hX HB.out)⟩⟩
      case rest =>
        clear HC11
        try clear p1
        try clear q1
        try clear hx1
        try clear qi1
        try clear p2
        try clear c7
        try clear c7b0
        try clear c8
        try clear c8b0
        try clear c9
        try clear c9b0
        try clear c9b1
        try clear c10
        try clear c10b0
        try clear c10b1
        try clear p10
        try clear q10
        try clear hx10
        try clear qi10
        try clear p11
        try clear q11
        try clear hx11
        try clear qi11
        try clear hczx1 hczx2 hczx3 hfzx1 hfzx2 hfzx3
        try clear hxx1
        try clear hxx2
        try clear hx111_0
        try clear px1
        try clear px2
        try clear p111
        try clear qx1
        try clear qx2
        try clear q111
        obtain ⟨kq, x111001_10, x111002_10, HA, HJw1, HO_y1, HO_y2, BKz1, BKx1, HB⟩ := hcut
        cases kq with
        | zero => exact absurd HA.out (by simp [spec_OpOf.j1])
        | succ kj10 =>
          have H := HA.out
          clear HA
          simp only [spec_OpOf.j1] at H
          have HC32 := aM H
          clear H
          go_upto_if 51 with (fail)
          repeat (go_quiet (fail); go_upto_if 51 with (fail))
          go_cut [] (fun wc => ∃ (kq : Nat) (x111002_31 : Int), Aside0 (spec_OpOf.j2 kq a0 t102 t105 x6_1 x6_1 x111001_10 x111002_31 = some (r1, r2, r3, r4)) ∧ Aside0 (kq ≤ kj10) ∧ Aside0 (Kd.R Kd.string 9 wc w.heap.size (fun k_ => some k_ ≠ ((.slice (some adx1) t105.length cox1) : Value).ownBlock) (.slice (some adx2) t102.length cox2) t102) ∧ Aside0 (Kd.R Kd.string 9 wc w.heap.size (fun k_ => some k_ ≠ ((.slice (some adx2) t102.length cox2) : Value).ownBlock) (.slice (some adx1) t105.length cox1) t105) ∧ Aside0 (wc.heap[gbz1]? = some (.cells #[.int .i64 x102000_1, .int .i64 x102001_1, .int .i64 x102002_1] 23 (0, 0))) ∧ Aside0 (wc.heap[gbx1]? = some (.cells #[.int .i64 x6_1, .int .i64 x111001_10, .int .i64 x111002_31] 23 (0, 0))) ∧ Aside0 (Below w.heap.size w wc))
          case first =>
            have H := HC32.out
            clear HC32
            by_cases c33 : (t102.length : Int) > 2
            case neg =>
              rw [if_neg c33] at H
              have c33b0 := decide_eq_false c33
              have c33b1 : decide (2 < t102.length) = false := decide_eq_false (by omega)
              clear c33
              (first | rw [c33b0] | (simp only [i64_w, i32_w]; rw [c33b0]) | skip)
              have H' := aM H
              clear H
              go_wp2
              repeat (go_quiet (fail); try go_wp2)
              go_meet
              case rel => exact ⟨_, (x111002_10), H', ⟨by have := HKy1.out; have := HJw1.out; first | omega | exact Nat.le_refl _⟩, ⟨(rX HO_y1.out)⟩, ⟨(rX HO_y2.out)⟩, ⟨(bX BKz1.out)⟩, ⟨(bX BKx1.out)⟩, ⟨(hX HB.out)⟩⟩
            rw [if_pos c33] at H
            have c33b0 := decide_eq_true c33
            have c33b1 : decide (2 < t102.length) = true := decide_eq_true (by omega)
            clear c33
            (first | rw [c33b0] | (simp only [i64_w, i32_w]; rw [c33b0]) | skip)
            replace H := ifP H; obtain ⟨c34, H⟩ := H
            have c34b0 := decide_eq_true c34
            have c34b1 : decide (2 < t102.length) = true := decide_eq_true (by omega)
            clear c34
            replace H := bE H; obtain ⟨⟨t116, t117⟩, A35, H⟩ := H
            try dsimp only at H
            have H' := aM H
            clear H
            have pu1 : 0 ≤ (2 : Int) := (by omega)
            have qu1 : 2 < (t102.length : Int) := odA
            obtain ⟨adu1, eu1, hxu1⟩ := Kd.at_string (Kd.R_reads' HO_y1.out).2.2 2 pu1 qu1
            obtain rfl : adx2 = adu1 := (by injection eu1)
            (try simp only [show (2 : Int).toNat = 2 from rfl, Nat.reduceMul, Nat.reduceEqDiff, Go.Addr.add, ↓reduceIte] at hxu1)
            have qiu1 : (2 < t102.length) = True := eq_true (by omega)
            (try rw [show ((2 : Int)).toNat = 2 from rfl] at hxu1)
            replace pu1 := eq_true pu1
            replace qu1 := eq_true qu1
            go_wp2_with (first | (go_at_call 29; (with_reducible refine (spec_Number.calls _ _ _ _ _ A35.out).mono ?_); rintro e wu1 ⟨rfl, hb⟩; replace HO_y1 := aQ HO_y1 hb; replace HO_y2 := aQ HO_y2 hb; replace BKz1 := aB BKz1 hb; replace BKx1 := aB BKx1 hb; replace HB := aS HB hb; clear hb; have hnbu1 := NBx2.out; have hncu1 := NBx1.out; obtain ⟨hczu1, hczu2, hczu3, hfzu1, hfzu2, hfzu3⟩ := cZ3 BKx1.out))
            repeat (go_quiet (fail); try go_wp2_with (first | (go_at_call 29; (with_reducible refine (spec_Number.calls _ _ _ _ _ A35.out).mono ?_); rintro e wu1 ⟨rfl, hb⟩; replace HO_y1 := aQ HO_y1 hb; replace HO_y2 := aQ HO_y2 hb; replace BKz1 := aB BKz1 hb; replace BKx1 := aB BKx1 hb; replace HB := aS HB hb; clear hb; have hnbu1 := NBx2.out; have hncu1 := NBx1.out; obtain ⟨hczu1, hczu2, hczu3, hfzu1, hfzu2, hfzu3⟩ := cZ3 BKx1.out)))
            go_meet
            case rel => exact ⟨_, (t116), H', ⟨by have := HKy1.out; have := HJw1.out; first | omega | exact Nat.le_refl _⟩, ⟨(rT (h := by exact Kd.R_mono (Kd.R_far (p := ⟨gbx1, 2, none⟩) (Kd.R_types HO_y1.out BKx1.out (by decide)) (fun _ hk => hk.2) (.int .i64 t116)) (fun _ hk => hk.1)))⟩, ⟨(rT (h := by exact Kd.R_mono (Kd.R_far (p := ⟨gbx1, 2, none⟩) (Kd.R_types HO_y2.out BKx1.out (by decide)) (fun _ hk => hk.2) (.int .i64 t116)) (fun _ hk => hk.1)))⟩, ⟨(bF BKz1.out)⟩, ⟨(bP BKx1.out)⟩, ⟨(hX HB.out)⟩⟩
          case rest =>
            clear HC32
            try clear p1
            try clear q1
            try clear hx1
            try clear qi1
            try clear p2
            try clear c7
            try clear c7b0
            try clear c8
            try clear c8b0
            try clear c9
            try clear c9b0
            try clear c9b1
            try clear c10
            try clear c10b0
            try clear c10b1
            try clear p10
            try clear q10
            try clear hx10
            try clear qi10
            try clear p11
            try clear q11
            try clear hx11
            try clear qi11
            try clear hczx1 hczx2 hczx3 hfzx1 hfzx2 hfzx3
            try clear hxx1
            try clear hxx2
            try clear hx111_0
            try clear hx115_0
            try clear px1
            try clear px2
            try clear p111
            try clear p115
            try clear qx1
            try clear qx2
            try clear q111
            try clear q115
            obtain ⟨kq, x111002_31, HA, HJu1, HO_y1, HO_y2, BKz1, BKx1, HB⟩ := hcut
            cases kq with
            | zero => exact absurd HA.out (by simp [spec_OpOf.j2])
            | succ kj31 =>
              have H := HA.out
              clear HA
              simp only [spec_OpOf.j2] at H
              replace H := bE H; obtain ⟨t118, A39, H⟩ := H
              by_cases c40 : t118 = true
              case neg =>
                replace c40 := Bool.eq_false_iff.mpr c40
                subst c40
                rw [if_neg nft] at H
                have H' := aM H
                clear H
                have hnbt1 := NBx2.out
                have hnct1 := NBx1.out
                obtain ⟨hczt1, hczt2, hczt3, hfzt1, hfzt2, hfzt3⟩ := cZ3 BKx1.out
                go_wp2_with (first | (go_at_call 31; (with_reducible refine (spec_OpOk.calls _ _ _ _ _ _ A39.out).mono ?_); rintro e wt1 ⟨rfl, hb⟩; replace HO_y1 := aQ HO_y1 hb; replace HO_y2 := aQ HO_y2 hb; replace BKz1 := aB BKz1 hb; replace BKx1 := aB BKx1 hb; replace HB := aS HB hb; clear hb))
                repeat (go_quiet (fail); try go_wp2_with (first | (go_at_call 31; (with_reducible refine (spec_OpOk.calls _ _ _ _ _ _ A39.out).mono ?_); rintro e wt1 ⟨rfl, hb⟩; replace HO_y1 := aQ HO_y1 hb; replace HO_y2 := aQ HO_y2 hb; replace BKz1 := aB BKz1 hb; replace BKx1 := aB BKx1 hb; replace HB := aS HB hb; clear hb)))
                go_roundg kj31
                case measure => have := HKy1.out; have := HJw1.out; have := HJu1.out; omega
                case rel => exact ⟨(wrap64 (x6_1 + 1)), (x102000_1), (x102001_1), (x102002_1), rS, H', ⟨by have := HKy1.out; have := HJw1.out; have := HJu1.out; omega⟩, ⟨(rX HO_y1.out)⟩, ⟨(rX HO_y2.out)⟩, ⟨(bX BKz1.out)⟩, ⟨(hX HB.out)⟩⟩
              subst c40
              rw [if_pos rfl] at H
              replace H := bE H; obtain ⟨t119, A41, H⟩ := H
              have hnbt1 := NBx2.out
              have hnct1 := NBx1.out
              obtain ⟨hczt1, hczt2, hczt3, hfzt1, hfzt2, hfzt3⟩ := cZ3 BKx1.out
              go_wp2_with (first | (go_at_call 31; (with_reducible refine (spec_OpOk.calls _ _ _ _ _ _ A39.out).mono ?_); rintro e wt1 ⟨rfl, hb⟩; replace HO_y1 := aQ HO_y1 hb; replace HO_y2 := aQ HO_y2 hb; replace BKz1 := aB BKz1 hb; replace BKx1 := aB BKx1 hb; replace HB := aS HB hb; clear hb; obtain ⟨hczt4, hczt5, hczt6, hfzt4, hfzt5, hfzt6⟩ := cZ3 BKx1.out; refine Stop.out ?_))
              refine ⟨?_⟩
              by_cases c42 : t119.toList = a0.toList
              case neg =>
                rw [if_neg c42] at H
                obtain ⟨c42b0, c42b1⟩ := eqF c42
                have H' := aM H
                clear H
                go_wp2_with (first | (go_at_call 21; (with_reducible refine (spec_OpText.calls _ _ _ _ _ _ A41.out).mono ?_); rintro e wt2 ⟨rfl, hb⟩; replace HO_y1 := aQ HO_y1 hb; replace HO_y2 := aQ HO_y2 hb; replace BKz1 := aB BKz1 hb; replace BKx1 := aB BKx1 hb; replace HB := aS HB hb; clear hb))
                repeat (go_quiet (fail); try go_wp2_with (first | (go_at_call 31; (with_reducible refine (spec_OpOk.calls _ _ _ _ _ _ A39.out).mono ?_); rintro e wt1 ⟨rfl, hb⟩; replace HO_y1 := aQ HO_y1 hb; replace HO_y2 := aQ HO_y2 hb; replace BKz1 := aB BKz1 hb; replace BKx1 := aB BKx1 hb; replace HB := aS HB hb; clear hb; obtain ⟨hczt4, hczt5, hczt6, hfzt4, hfzt5, hfzt6⟩ := cZ3 BKx1.out) | (go_at_call 21; (with_reducible refine (spec_OpText.calls _ _ _ _ _ _ A41.out).mono ?_); rintro e wt2 ⟨rfl, hb⟩; replace HO_y1 := aQ HO_y1 hb; replace HO_y2 := aQ HO_y2 hb; replace BKz1 := aB BKz1 hb; replace BKx1 := aB BKx1 hb; replace HB := aS HB hb; clear hb)))
                go_roundg kj31
                case measure => have := HKy1.out; have := HJw1.out; have := HJu1.out; omega
                case rel => exact ⟨(wrap64 (x6_1 + 1)), (x102000_1), (x102001_1), (x102002_1), rS, H', ⟨by have := HKy1.out; have := HJw1.out; have := HJu1.out; omega⟩, ⟨(rX HO_y1.out)⟩, ⟨(rX HO_y2.out)⟩, ⟨(bX BKz1.out)⟩, ⟨(hX HB.out)⟩⟩
              rw [if_pos c42] at H
              obtain ⟨c42b0, c42b1⟩ := eqT c42
              clear c42
              simp only [Option.some.injEq, Prod.mk.injEq] at H
              obtain ⟨rfl, rfl, rfl, rfl⟩ := H
              go_wp2_with (first | (go_at_call 21; (with_reducible refine (spec_OpText.calls _ _ _ _ _ _ A41.out).mono ?_); rintro e wt2 ⟨rfl, hb⟩; replace HO_y1 := aQ HO_y1 hb; replace HO_y2 := aQ HO_y2 hb; replace BKz1 := aB BKz1 hb; replace BKx1 := aB BKx1 hb; replace HB := aS HB hb; clear hb; obtain ⟨hczt7, hczt8, hczt9, hfzt7, hfzt8, hfzt9⟩ := cZ3 BKx1.out; obtain ⟨hczt10, hczt11, hczt12, hfzt10, hfzt11, hfzt12⟩ := cZ3 BKz1.out))
              repeat (go_quiet (fail); try go_wp2_with (first | (go_at_call 31; (with_reducible refine (spec_OpOk.calls _ _ _ _ _ _ A39.out).mono ?_); rintro e wt1 ⟨rfl, hb⟩; replace HO_y1 := aQ HO_y1 hb; replace HO_y2 := aQ HO_y2 hb; replace BKz1 := aB BKz1 hb; replace BKx1 := aB BKx1 hb; replace HB := aS HB hb; clear hb; obtain ⟨hczt4, hczt5, hczt6, hfzt4, hfzt5, hfzt6⟩ := cZ3 BKx1.out) | (go_at_call 21; (with_reducible refine (spec_OpText.calls _ _ _ _ _ _ A41.out).mono ?_); rintro e wt2 ⟨rfl, hb⟩; replace HO_y1 := aQ HO_y1 hb; replace HO_y2 := aQ HO_y2 hb; replace BKz1 := aB BKz1 hb; replace BKx1 := aB BKx1 hb; replace HB := aS HB hb; clear hb; obtain ⟨hczt7, hczt8, hczt9, hfzt7, hfzt8, hfzt9⟩ := cZ3 BKx1.out; obtain ⟨hczt10, hczt11, hczt12, hfzt10, hfzt11, hfzt12⟩ := cZ3 BKz1.out)))
              refine bodyPost_ret (results_ct rfl _ _ gbz1 23 #[.int .i64 x6_1, .int .i64 x111001_10, .int .i64 x111002_31] (0, 0) _ rfl (bP BKz1.out) Tryd.underlying23 rfl (by kernel_rfl)) rfl ?_
              exact ⟨rE, (hX HB.out)⟩
def spec_ProgOf.l0 : Nat → List (S23) → List ByteArray → Int → Option ((List (S23)) × Bool)
  | 0, _, _, _ => none
  | k + 1, x4, x5, x6 => if x6 < (x5.length : Int) then (if 0 ≤ x6 then ((spec_OpOf.f k (rdOf ByteArray.empty x5 x6)).bind fun bt108 => (if bt108.2.2.2 = true then (if (x5.length : Int) > 8 then (some ((([] : List (S23))), false)) else (if x4.length < 5864062014805 then (spec_ProgOf.l0 k (x4 ++ [(⟨bt108.1, bt108.2.1, bt108.2.2.1⟩ : S23)]) x5 (wrap64 (x6 + 1))) else (none))) else (some ((([] : List (S23))), false)))) else (none)) else (some (x4, true))
def spec_ProgOf.f (k : Nat) (a0 : ByteArray) : Option ((List (S23)) × Bool) := (some (([] : List (S23)) : List (S23))).bind fun y101 => (if a0.toList = ([] : List UInt8) then (some (y101, true)) else ((spec_Split.f k a0 59).bind fun t104 => (spec_ProgOf.l0 k y101 t104 0)))
set_option maxHeartbeats 8000000 in
set_option maxRecDepth 100000 in
theorem spec_ProgOf.calls (k : Nat) (a0 : ByteArray) (r1 : List (S23)) (r2 : Bool) (w : World) (h : spec_ProgOf.f k a0 = some (r1, r2)) :
    Calls Tryd.prog 9 #[.string a0] w fun e w' => ∃ v0_ : Value, e = .returned (.tuple #[v0_, .bool r2]) ∧ Kd.R k23 23 w' w.heap.size (fun _ => True) v0_ r1 ∧ Below w.heap.size w w' := by
  have hu23 := Tryd.underlying23
  have HB := aM (Below.refl w.heap.size w)
  have H := h
  unfold spec_ProgOf.f at H
  clear h
  replace H := sE H; obtain ⟨y101, Ny101, H⟩ := H
  go_enter Tryd.func9, Tryd.ntmps9
  go_wp2_with (first | ((with_reducible refine gate_dst (N := 9) rfl ?_); (try (refine gate_guard (by rfl) ?_; dsimp only)); refine Kd.R_lit k23 _ 23 ?hg (N := 9) ?hd (xs := ([] : List (S23))) (inner := []) (ok := fun _ => True) (okp := fun _ => True) ?hr ?hp (fun _ hk => hk) trivial (Below.refl _ _) (Nat.le_refl _) (by simp) ?_; (case hd => rfl); (case hg => rfl); (case hr => first | (go_simp; done) | (go_simp; rfl)); (case hp => exact (Reps.none _ _)); intro vz1 wz1 hoz1 hb hg_ hnew_; clear hg_ hnew_; (first | rw [← Ny101.out] at hoz1 | (simp only [Int.reduceToNat] at hoz1; rw [← Ny101.out] at hoz1)); have HOz1 := aM (Kd.R_lower hoz1 (below_size (hX HB.out))); replace HB := aS HB hb; clear hb hoz1; refine Stop.out ?_))
  refine ⟨?_⟩
  by_cases c2 : a0.toList = ([] : List UInt8)
  · rw [if_pos c2] at H
    obtain ⟨c2b0, c2b1⟩ := eqT c2
    clear c2
    simp only [Option.some.injEq, Prod.mk.injEq] at H
    obtain ⟨rfl, rfl⟩ := H
    go_wp2
    go_ret2
    exact ⟨_, rE, (rX HOz1.out), (hX HB.out)⟩
  rw [if_neg c2] at H
  obtain ⟨c2b0, c2b1⟩ := eqF c2
  replace H := bE H; obtain ⟨t104, A5, H⟩ := H
  have H' := aM H
  clear H
  go_wp2_with (first | (refine goesM 27 14 Tryd.func27 #[.string a0, .int .u8 59] ?_; refine (spec_Split.calls _ _ _ _ _ A5.out).mono ?_; rintro e wz2 ⟨vz2, rfl, hoz2, hb⟩; refine ⟨_, rfl, ?_⟩; have HOz2 := aM (Kd.R_lower hoz2 (below_size (hX HB.out))); replace HOz1 := aQ HOz1 hb; replace HB := aS HB hb; clear hb hoz2))
  go_loopg [4, 6] k (fun kq v4 v6 w' => ∃ (x4_1 : List (S23)) (x6_1 : Int), v6 = .int .i64 x6_1 ∧ Aside0 (spec_ProgOf.l0 kq x4_1 t104 x6_1 = some (r1, r2)) ∧ Aside0 (kq ≤ k) ∧ Aside0 (Kd.R k23 23 w' w.heap.size (fun _ => True) v4 x4_1) ∧ Aside0 (Kd.R Kd.string 9 w' w.heap.size (fun _ => True) vz2 t104) ∧ Aside0 (Below w.heap.size w w'))
  case atStart => exact ⟨(y101), (0), rS, H', ⟨Nat.le_refl _⟩, ⟨(rX HOz1.out)⟩, ⟨(rX HOz2.out)⟩, ⟨(hX HB.out)⟩⟩
  case round =>
    clear H'
    try clear c2
    try clear c2b0
    try clear c2b1
    try clear p2
    obtain ⟨x4_1, x6_1, rfl, HA, HKy1, HO_y1, HO_y2, HB⟩ := hrel
    cases gk with
    | zero => exact absurd HA.out (by simp [spec_ProgOf.l0])
    | succ k1 =>
      have H := HA.out
      clear HA
      simp only [spec_ProgOf.l0] at H
      by_cases c9 : x6_1 < (t104.length : Int)
      case neg =>
        rw [if_neg c9] at H
        have c9b0 := decide_eq_false c9
        clear c9
        simp only [Option.some.injEq, Prod.mk.injEq] at H
        obtain ⟨rfl, rfl⟩ := H
        obtain ⟨Aox1, cox1, eox1⟩ := Kd.R_slice HO_y2.out
        subst eox1
        go_wp2
        go_ret2
        exact ⟨_, rE, (rX HO_y1.out), (hX HB.out)⟩
      rw [if_pos c9] at H
      have c9b0 := decide_eq_true c9
      clear c9
      replace H := ifP H; obtain ⟨c10, H⟩ := H
      have c10b0 := decide_eq_true c10
      clear c10
      replace H := bE H; obtain ⟨⟨t108, t109, t110, t111⟩, A11, H⟩ := H
      try dsimp only at H
      by_cases c12 : t111 = true
      case neg =>
        replace c12 := Bool.eq_false_iff.mpr c12
        subst c12
        rw [if_neg nft] at H
        obtain ⟨y119, hy119⟩ : ∃ y_ : List (S23), y_ = (([] : List (S23))) := ⟨_, rfl⟩
        replace H : (some (y119, false)) = some (r1, r2) := yH H hy119
        have Ny119 := aM hy119
        clear hy119
        simp only [Option.some.injEq, Prod.mk.injEq] at H
        obtain ⟨rfl, rfl⟩ := H
        obtain ⟨Aox1, cox1, eox1⟩ := Kd.R_slice HO_y2.out
        subst eox1
        have px1 : 0 ≤ (x6_1 : Int) := odA
        have qx1 : x6_1 < (t104.length : Int) := odA
        obtain ⟨adx1, ex1, hxx1⟩ := Kd.at_string (Kd.R_reads' HO_y2.out).2.2 x6_1 px1 qx1
        cases ex1
        replace px1 := eq_true px1
        replace qx1 := eq_true qx1
        go_wp2_with (first | (refine goesM 6 26 Tryd.func6 #[.string (rdOf ByteArray.empty t104 x6_1)] ?_; refine (spec_OpOf.calls _ _ _ _ _ _ _ A11.out).mono ?_; rintro e wx1 ⟨rfl, hb⟩; refine ⟨_, rfl, ?_⟩; replace HO_y1 := aQ HO_y1 hb; replace HO_y2 := aQ HO_y2 hb; replace HB := aS HB hb; clear hb) | ((with_reducible refine gate_dst (N := 7) rfl ?_); (try (refine gate_guard (by rfl) ?_; dsimp only)); refine boxF 7 #[.int .i64 0, .int .i64 0, .int .i64 0] 23 ?_; intro gbx1 hg wx2 hbox hb; have BKx1 := aM (hbox); have GWx1 := aG hg HB; have GEx1 := aG hg HB; replace HO_y1 := aM (Kd.R_below (Kd.R_elderB (rX HO_y1.out) gbx1 (Nat.le_of_eq hg.symm)) hb); replace HO_y2 := aQ HO_y2 hb; replace HB := aS HB hb; clear hb hbox hg; obtain ⟨hczx1, hczx2, hczx3, hfzx1, hfzx2, hfzx3⟩ := cZ3 BKx1.out) | ((with_reducible refine gate_dst (N := 36) rfl ?_); (try (refine gate_guard (by rfl) ?_; dsimp only)); refine Kd.R_lit k23 _ 23 ?hg (N := 36) ?hd (xs := ([] : List (S23))) (inner := []) (ok := fun _ => True) (okp := fun _ => True) ?hr ?hp (fun _ hk => hk) trivial (Below.refl _ _) (Nat.le_refl _) (by simp) ?_; (case hd => rfl); (case hg => rfl); (case hr => first | (go_simp; done) | (go_simp; rfl)); (case hp => exact (Reps.none _ _)); intro vx1 wx3 hox1 hb hg_ hnew_; clear hg_ hnew_; (first | rw [← Ny119.out] at hox1 | (simp only [Int.reduceToNat] at hox1; rw [← Ny119.out] at hox1)); have HOx1 := aM (Kd.R_lower (Kd.R_newB (Kd.R_new' hox1 (Kd.R_lt (rT (h := by exact (Kd.R_mono (Kd.R_far (p := ⟨gbx1, 2, none⟩) (Kd.R_far (p := ⟨gbx1, 1, none⟩) (Kd.R_far (p := ⟨gbx1, 0, none⟩) (Kd.R_mono HO_y1.out (fun k_ hk => (⟨hk, hk.2⟩ : _ ∧ k_ ≠ gbx1))) (fun _ hk => hk.2) (.int .i64 t108)) (fun _ hk => hk.2) (.int .i64 t109)) (fun _ hk => hk.2) (.int .i64 t110)) (fun _ h_ => h_.1)))))) (g := gbx1) (o := .cells #[.int .i64 t108, .int .i64 t109, .int .i64 t110] 23 (0, 0)) (bP BKx1.out)) (below_size (hX HB.out))); replace HO_y1 := aM (Kd.R_elder' (rT (h := by exact (Kd.R_mono (Kd.R_far (p := ⟨gbx1, 2, none⟩) (Kd.R_far (p := ⟨gbx1, 1, none⟩) (Kd.R_far (p := ⟨gbx1, 0, none⟩) (Kd.R_mono HO_y1.out (fun k_ hk => (⟨hk, hk.2⟩ : _ ∧ k_ ≠ gbx1))) (fun _ hk => hk.2) (.int .i64 t108)) (fun _ hk => hk.2) (.int .i64 t109)) (fun _ hk => hk.2) (.int .i64 t110)) (fun _ h_ => h_.1)))) (Kd.R_base hox1) hb); replace HO_y2 := aM (Kd.R_below (rF HO_y2.out BKx1.out) hb); replace BKx1 := aM (blk_below (g := gbx1) (o := .cells #[.int .i64 t108, .int .i64 t109, .int .i64 t110] 23 (0, 0)) (bP BKx1.out) hb); replace HB := aS HB hb; clear hb hox1))
        go_ret2
        exact ⟨_, rE, (rT (h := by exact Kd.R_mono HOx1.out (fun _ hk => trivial))), (hX HB.out)⟩
      subst c12
      rw [if_pos rfl] at H
      obtain ⟨Aox1, cox1, eox1⟩ := Kd.R_slice HO_y2.out
      subst eox1
      have px1 : 0 ≤ (x6_1 : Int) := odA
      have qx1 : x6_1 < (t104.length : Int) := odA
      obtain ⟨adx1, ex1, hxx1⟩ := Kd.at_string (Kd.R_reads' HO_y2.out).2.2 x6_1 px1 qx1
      cases ex1
      replace px1 := eq_true px1
      replace qx1 := eq_true qx1
      go_wp2_with (first | (refine goesM 6 26 Tryd.func6 #[.string (rdOf ByteArray.empty t104 x6_1)] ?_; refine (spec_OpOf.calls _ _ _ _ _ _ _ A11.out).mono ?_; rintro e wx1 ⟨rfl, hb⟩; refine ⟨_, rfl, ?_⟩; replace HO_y1 := aQ HO_y1 hb; replace HO_y2 := aQ HO_y2 hb; replace HB := aS HB hb; clear hb) | ((with_reducible refine gate_dst (N := 7) rfl ?_); (try (refine gate_guard (by rfl) ?_; dsimp only)); refine boxF 7 #[.int .i64 0, .int .i64 0, .int .i64 0] 23 ?_; intro gbx1 hg wx2 hbox hb; have BKx1 := aM (hbox); have GWx1 := aG hg HB; have GEx1 := aG hg HB; replace HO_y1 := aM (Kd.R_below (Kd.R_elderB (rX HO_y1.out) gbx1 (Nat.le_of_eq hg.symm)) hb); replace HO_y2 := aQ HO_y2 hb; replace HB := aS HB hb; clear hb hbox hg; obtain ⟨hczx1, hczx2, hczx3, hfzx1, hfzx2, hfzx3⟩ := cZ3 BKx1.out; refine Stop.out ?_))
      refine ⟨?_⟩
      by_cases c13 : (t104.length : Int) > 8
      · rw [if_pos c13] at H
        have c13b0 := decide_eq_true c13
        have c13b1 : decide (8 < t104.length) = true := decide_eq_true (by omega)
        clear c13
        obtain ⟨y113, hy113⟩ : ∃ y_ : List (S23), y_ = (([] : List (S23))) := ⟨_, rfl⟩
        replace H : (some (y113, false)) = some (r1, r2) := yH H hy113
        have Ny113 := aM hy113
        clear hy113
        simp only [Option.some.injEq, Prod.mk.injEq] at H
        obtain ⟨rfl, rfl⟩ := H
        go_wp2_with (first | ((with_reducible refine gate_dst (N := 36) rfl ?_); (try (refine gate_guard (by rfl) ?_; dsimp only)); refine Kd.R_lit k23 _ 23 ?hg (N := 36) ?hd (xs := ([] : List (S23))) (inner := []) (ok := fun _ => True) (okp := fun _ => True) ?hr ?hp (fun _ hk => hk) trivial (Below.refl _ _) (Nat.le_refl _) (by simp) ?_; (case hd => rfl); (case hg => rfl); (case hr => first | (go_simp; done) | (go_simp; rfl)); (case hp => exact (Reps.none _ _)); intro vx1 wx3 hox1 hb hg_ hnew_; clear hg_ hnew_; (first | rw [← Ny113.out] at hox1 | (simp only [Int.reduceToNat] at hox1; rw [← Ny113.out] at hox1)); have HOx1 := aM (Kd.R_lower (Kd.R_newB (Kd.R_new' hox1 (Kd.R_lt (rT (h := by exact (Kd.R_mono (Kd.R_far (p := ⟨gbx1, 2, none⟩) (Kd.R_far (p := ⟨gbx1, 1, none⟩) (Kd.R_far (p := ⟨gbx1, 0, none⟩) (Kd.R_mono HO_y1.out (fun k_ hk => (⟨hk, hk.2⟩ : _ ∧ k_ ≠ gbx1))) (fun _ hk => hk.2) (.int .i64 t108)) (fun _ hk => hk.2) (.int .i64 t109)) (fun _ hk => hk.2) (.int .i64 t110)) (fun _ h_ => h_.1)))))) (g := gbx1) (o := .cells #[.int .i64 t108, .int .i64 t109, .int .i64 t110] 23 (0, 0)) (bP BKx1.out)) (below_size (hX HB.out))); replace HO_y1 := aM (Kd.R_elder' (rT (h := by exact (Kd.R_mono (Kd.R_far (p := ⟨gbx1, 2, none⟩) (Kd.R_far (p := ⟨gbx1, 1, none⟩) (Kd.R_far (p := ⟨gbx1, 0, none⟩) (Kd.R_mono HO_y1.out (fun k_ hk => (⟨hk, hk.2⟩ : _ ∧ k_ ≠ gbx1))) (fun _ hk => hk.2) (.int .i64 t108)) (fun _ hk => hk.2) (.int .i64 t109)) (fun _ hk => hk.2) (.int .i64 t110)) (fun _ h_ => h_.1)))) (Kd.R_base hox1) hb); replace HO_y2 := aM (Kd.R_below (rF HO_y2.out BKx1.out) hb); replace BKx1 := aM (blk_below (g := gbx1) (o := .cells #[.int .i64 t108, .int .i64 t109, .int .i64 t110] 23 (0, 0)) (bP BKx1.out) hb); replace HB := aS HB hb; clear hb hox1))
        go_ret2
        exact ⟨_, rE, (rT (h := by exact Kd.R_mono HOx1.out (fun _ hk => trivial))), (hX HB.out)⟩
      rw [if_neg c13] at H
      have c13b0 := decide_eq_false c13
      have c13b1 : decide (8 < t104.length) = false := decide_eq_false (by omega)
      clear c13
      replace H := ifP H; obtain ⟨c20, H⟩ := H
      have LMc20 := aM c20
      clear c20
      obtain ⟨y116, hy116⟩ : ∃ y_ : List (S23), y_ = (x4_1 ++ [(⟨t108, t109, t110⟩ : S23)]) := ⟨_, rfl⟩
      replace H : (spec_ProgOf.l0 k1 y116 t104 (wrap64 (x6_1 + 1))) = some (r1, r2) := yH H hy116
      have Ny116 := aM hy116
      clear hy116
      have H' := aM H
      clear H
      go_wp2_with (first | ((with_reducible refine gate_builtin (b := .append) (xs := #[.tmp 37, .tmp 39]) rfl ?_); (try (refine gate_guard (by rfl) ?_; dsimp only)); at_builtin; refine Kd.R_append k23 (w0 := w) w.heap.size rfl (.tmp 37) (.tmp 39) 28 23 (.agg #[(.int .i64 0), (.int .i64 0), (.int .i64 0)]) 24 rfl Tryd.underlying28 info23 rfl (by decide) (by omega) u4 x4_1 (⟨t108, t109, t110⟩ : S23) [.int .i64 t108, .int .i64 t109, .int .i64 t110] (fun k_ => k_ ≠ gbx1) (fun _ => False) rfl (by first | (go_simp; done) | (go_simp; rfl)) ?aP (fun _ hk => hk.elim) ?aF ?aO ?aB ?aS ?aL ?_; (case aP => exact k23_mkM _ _ _ (⟨t108, t109, t110⟩ : S23)); (case aB => exact (hX HB.out)); (case aF => exact (fun k_ hk => Kd.freshB (g := gbx1) (o := .cells #[.int .i64 t108, .int .i64 t109, .int .i64 t110] 23 (0, 0)) (bP BKx1.out) k_ hk)); (case aO => exact (rT (h := by exact Kd.R_mono (Kd.R_far (p := ⟨gbx1, 2, none⟩) (Kd.R_far (p := ⟨gbx1, 1, none⟩) (Kd.R_far (p := ⟨gbx1, 0, none⟩) (Kd.R_mono HO_y1.out (fun k_ hk => (⟨hk, hk.2⟩ : _ ∧ k_ ≠ gbx1))) (fun _ hk => hk.2) (.int .i64 t108)) (fun _ hk => hk.2) (.int .i64 t109)) (fun _ hk => hk.2) (.int .i64 t110)) (fun _ hk => hk.1.2)))); (case aS => exact (below_size (hX HB.out))); (case aL => have := LMc20.out; omega); intro vx1 wx3 ho hb hg hat; rw [← Ny116.out] at ho; have HOx1 := aM (ho); replace HO_y2 := aM (Kd.R_over' (rF HO_y2.out BKx1.out) (Kd.R_typed (rT (h := by exact (Kd.R_mono (Kd.R_far (p := ⟨gbx1, 2, none⟩) (Kd.R_far (p := ⟨gbx1, 1, none⟩) (Kd.R_far (p := ⟨gbx1, 0, none⟩) (Kd.R_mono HO_y1.out (fun k_ hk => (⟨hk, hk.2⟩ : _ ∧ k_ ≠ gbx1))) (fun _ hk => hk.2) (.int .i64 t108)) (fun _ hk => hk.2) (.int .i64 t109)) (fun _ hk => hk.2) (.int .i64 t110)) (fun _ h_ => h_.1))))) (by decide) hg); replace BKx1 := aM (blk_grown (g := gbx1) (o := .cells #[.int .i64 t108, .int .i64 t109, .int .i64 t110] 23 (0, 0)) (bP BKx1.out) hg (Kd.R_away HO_y1.out (fun _ hk => hk.2))); replace HB := aM (hb); clear HO_y1; clear ho hb hg hat))
      go_roundg k1
      case measure => have := HKy1.out; omega
      case rel => exact ⟨(y116), (wrap64 (x6_1 + 1)), rS, H', ⟨by have := HKy1.out; omega⟩, ⟨(rT (h := by exact Kd.R_mono HOx1.out (fun _ hk => trivial)))⟩, ⟨(rX HO_y2.out)⟩, ⟨(hX HB.out)⟩⟩
end Go.Proofs.YtafcfhgdblefgaaDoor.P
