/- A part of the proof of the law FnExactJudgeTimes: texts of this seat, merged (words, printed functions of the program, plain lemmas). Conditions: none of its own. -/
import Derived.Test.YtmljebgideecjaaGreatP2kFnExactJudgeTimes2
set_option linter.unusedSimpArgs false
set_option linter.unusedVariables false
namespace Go.Proofs.YtmljebgideecjaaGreat.P2
open Go.Proofs.YtmljebgideecjaaGreatZ Go.RowKit Go.Proofs.YtmljebgideecjaaGreatW.PrintWords Go.Proofs.YtmljebgideecjaaGreatW.PrintLast Go.Proofs.YtmljebgideecjaaGreatW.PrintMore
attribute [local go_sem] max2_int min2_int max_two min_two max_three min_three max_four min_four   -- for this text's walks alone
attribute [local go_sem high] eqA69
def spec_l9Thread.l0 : Nat → Int → Int → Int → Int → List (S140) → List (S162) → List (S97) → Int → List (S73) → List Int → List Int → Int → List (S69) → Int → Bool → List (S172) → List (S174) → Option (Bool)
  | 0, _, _, _, _, _, _, _, _, _, _, _, _, _, _, _, _, _ => none
  | k + 1, x1, x6, x7, x8, x102000, x102001, x102002, x102003, x102004, x102005, x102006, x102007, x104000, x104001, x104002, x104003, x104004 => if x8 < (x102004.length : Int) then (if 0 ≤ x8 then (if ((rd_T73 x102004 x8).f0) = x1 then (if ((rd_T73 x102004 x8).f4) ≥ 0 then (spec_l9Thread.l0 k x1 x6 (wrap64 (x7 + 1)) (wrap64 (x8 + 1)) x102000 x102001 x102002 x102003 x102004 x102005 x102006 x102007 x104000 x104001 x104002 x104003 x104004) else (if x104002 = true then (if x8 = x6 then (spec_l9Thread.l0 k x1 x6 x7 (wrap64 (x8 + 1)) x102000 x102001 x102002 x102003 x102004 x102005 x102006 x102007 x104000 x104001 x104002 x104003 x104004) else (some false)) else (some false))) else (spec_l9Thread.l0 k x1 x6 x7 (wrap64 (x8 + 1)) x102000 x102001 x102002 x102003 x102004 x102005 x102006 x102007 x104000 x104001 x104002 x104003 x104004)) else (none)) else (if x7 = x104001 then (if x104002 = true then (if x6 ≥ 0 then (if 0 ≤ x6 then (if x6 < (x102004.length : Int) then (if ((rd_T73 x102004 x6).f4) = (-1) then (if 0 ≤ x104001 then (if x104001 < (x104000.length : Int) then (some (((rd_T73 x102004 x6).f1.f0) == ((rd_T69 x104000 x104001).f0) && (((rd_T73 x102004 x6).f1.f1) == ((rd_T69 x104000 x104001).f1) && (((rd_T73 x102004 x6).f1.f2) == ((rd_T69 x104000 x104001).f2))))) else (none)) else (none)) else (some false)) else (none)) else (none)) else (some false)) else (some true)) else (some false))
def spec_l9Thread.f (k : Nat) (l0_0 : List (S140)) (l0_1 : List (S162)) (l0_2 : List (S97)) (a0_3 : Int) (l0_4 : List (S73)) (l0_5 : List Int) (l0_6 : List Int) (a0_7 : Int) (a1 : Int) : Option (Bool) := if 0 ≤ a1 then (if a1 < (l0_2.length : Int) then ((spec_l9Last.f k l0_0 l0_1 l0_2 a0_3 l0_4 l0_5 l0_6 a0_7 a1).bind fun t104 => (spec_l9Thread.l0 k a1 t104 0 0 l0_0 l0_1 l0_2 a0_3 l0_4 l0_5 l0_6 a0_7 ((rd_T97 l0_2 a1).f0) ((rd_T97 l0_2 a1).f1) ((rd_T97 l0_2 a1).f2) ((rd_T97 l0_2 a1).f3) ((rd_T97 l0_2 a1).f4))) else (none)) else (none)
set_option maxHeartbeats 8000000 in
set_option maxRecDepth 100000 in
theorem spec_l9Thread.calls (k : Nat) (A0_0 : Option Addr) (c0_0 : Nat) (l0_0 : List (S140)) (A0_1 : Option Addr) (c0_1 : Nat) (l0_1 : List (S162)) (A0_2 : Option Addr) (c0_2 : Nat) (l0_2 : List (S97)) (a0_3 : Int) (A0_4 : Option Addr) (c0_4 : Nat) (l0_4 : List (S73)) (A0_5 : Option Addr) (c0_5 : Nat) (l0_5 : List Int) (A0_6 : Option Addr) (c0_6 : Nat) (l0_6 : List Int) (a0_7 : Int) (a1 : Int) (r : Bool) (w : World) (hr0_0 : Kd.C k140 w A0_0 l0_0.length l0_0) (hc0_0 : l0_0.length ≤ c0_0) (hr0_1 : Kd.C k162 w A0_1 l0_1.length l0_1) (hc0_1 : l0_1.length ≤ c0_1) (hr0_2 : Kd.C k97 w A0_2 l0_2.length l0_2) (hc0_2 : l0_2.length ≤ c0_2) (hr0_4 : Kd.C k73 w A0_4 l0_4.length l0_4) (hc0_4 : l0_4.length ≤ c0_4) (hr0_5 : Kd.C (Kd.int .i64) w A0_5 l0_5.length l0_5) (hc0_5 : l0_5.length ≤ c0_5) (hr0_6 : Kd.C (Kd.int .i64) w A0_6 l0_6.length l0_6) (hc0_6 : l0_6.length ≤ c0_6) (h : spec_l9Thread.f k l0_0 l0_1 l0_2 a0_3 l0_4 l0_5 l0_6 a0_7 a1 = some r) :
    Calls Tryz.prog 96 #[.agg #[.slice A0_0 l0_0.length c0_0, .slice A0_1 l0_1.length c0_1, .slice A0_2 l0_2.length c0_2, .int .i64 a0_3, .slice A0_4 l0_4.length c0_4, .slice A0_5 l0_5.length c0_5, .slice A0_6 l0_6.length c0_6, .int .i64 a0_7], .int .i64 a1] w fun e w' => e = .returned (.bool r) ∧ Below w.heap.size w w' := by
  have hu43 := Tryz.underlying43
  have hu97 := Tryz.underlying97
  have hu69 := Tryz.underlying69
  have HR0_0 := aM hr0_0
  have HC0_0 := aM hc0_0
  clear hr0_0 hc0_0
  have HR0_1 := aM hr0_1
  have HC0_1 := aM hc0_1
  clear hr0_1 hc0_1
  have HR0_2 := aM hr0_2
  have HC0_2 := aM hc0_2
  clear hr0_2 hc0_2
  have HR0_4 := aM hr0_4
  have HC0_4 := aM hc0_4
  clear hr0_4 hc0_4
  have HR0_5 := aM hr0_5
  have HC0_5 := aM hc0_5
  clear hr0_5 hc0_5
  have HR0_6 := aM hr0_6
  have HC0_6 := aM hc0_6
  clear hr0_6 hc0_6
  have HB := aM (Below.refl w.heap.size w)
  have H := h
  unfold spec_l9Thread.f at H
  clear h
  replace H := ifP H; obtain ⟨c3, H⟩ := H
  have c3b0 := decide_eq_true c3
  clear c3
  replace H := ifP H; obtain ⟨c4, H⟩ := H
  have c4b0 := decide_eq_true c4
  clear c4
  replace H := bE H; obtain ⟨t104, A5, H⟩ := H
  have H' := aM H
  clear H
  go_enter Tryz.func96, Tryz.ntmps96
  go_wp2_with (first | (refine boxE 2 #[.slice A0_0 l0_0.length c0_0, .slice A0_1 l0_1.length c0_1, .slice A0_2 l0_2.length c0_2, .int .i64 a0_3, .slice A0_4 l0_4.length c0_4, .slice A0_5 l0_5.length c0_5, .slice A0_6 l0_6.length c0_6, .int .i64 a0_7] 43 ?_; intro gbz1 hg wz1 hbox hb; have BKz1 := aM (hbox); have GWz1 := aG hg HB; have GEz1 := aG hg HB; replace HB := aS HB hb; clear hb hbox hg; obtain ⟨hczz1, hczz2, hczz3, hczz4, hczz5, hczz6, hczz7, hczz8, hfzz1, hfzz2, hfzz3, hfzz4, hfzz5, hfzz6, hfzz7, hfzz8⟩ := cZ8 BKz1.out; have pz1 : 0 ≤ (a1 : Int) := odA; have qz1 : a1 < (l0_2.length : Int) := odA; obtain ⟨adz1, Az1, cz1, Az2, cz2, Az3, cz3, ez1, hxz1, hxz2, hxz3, hxz4, hxz5, hlz1, hiz1, hlz2, hiz2, hlz3, hiz3⟩ := at_T97 HR0_2.out a1 pz1 qz1; cases ez1; replace hxz1 := bc HB.out hxz1; replace hxz2 := bc HB.out hxz2; replace hxz3 := bc HB.out hxz3; replace hxz4 := bc HB.out hxz4; replace hxz5 := bc HB.out hxz5; have HRz1 := aM hiz1; have HCz1 := aM hlz1; clear hiz1 hlz1; have HRz2 := aM hiz2; have HCz2 := aM hlz2; clear hiz2 hlz2; have HRz3 := aM hiz3; have HCz3 := aM hlz3; clear hiz3 hlz3; replace pz1 := eq_true pz1; replace qz1 := eq_true qz1) | (refine boxE 5 #[.slice none 0 0, .int .i64 0, .bool false, .slice none 0 0, .slice none 0 0] 97 ?_; intro gbz2 hg wz2 hbox hb; have BKz2 := aM (hbox); have GWz2 := aG hg HB; have GEz2 := aG hg HB; have NBz1 := aL hg BKz1; have NBz2 := aR hg BKz1; replace BKz1 := aB BKz1 hb; replace HB := aS HB hb; clear hb hbox hg; have hnbz1 := NBz2.out; have hncz1 := NBz1.out; obtain ⟨hczz9, hczz10, hczz11, hczz12, hczz13, hfzz9, hfzz10, hfzz11, hfzz12, hfzz13⟩ := cZ5 BKz2.out; obtain ⟨hczz14, hczz15, hczz16, hczz17, hczz18, hczz19, hczz20, hczz21, hfzz14, hfzz15, hfzz16, hfzz17, hfzz18, hfzz19, hfzz20, hfzz21⟩ := cZ8 BKz1.out) | (go_at_call 163; (with_reducible refine (spec_l9Last.calls _ _ _ _ _ _ _ _ _ _ _ _ _ _ _ _ _ _ _ _ _ _ _ _ (by exact Kd.C_below HR0_0.out (hX HB.out)) HC0_0.out (by exact Kd.C_below HR0_1.out (hX HB.out)) HC0_1.out (by exact Kd.C_below HR0_2.out (hX HB.out)) HC0_2.out (by exact Kd.C_below HR0_4.out (hX HB.out)) HC0_4.out (by exact Kd.C_below HR0_5.out (hX HB.out)) HC0_5.out (by exact Kd.C_below HR0_6.out (hX HB.out)) HC0_6.out A5.out).mono ?_); rintro e wz3 ⟨rfl, hb⟩; replace BKz1 := aF BKz1 hb; replace BKz2 := aM (blk_below (g := gbz2) (o := .cells #[.slice Az1 ((rd_T97 l0_2 a1).f0).length cz1, .int .i64 ((rd_T97 l0_2 a1).f1), .bool ((rd_T97 l0_2 a1).f2), .slice Az2 ((rd_T97 l0_2 a1).f3).length cz2, .slice Az3 ((rd_T97 l0_2 a1).f4).length cz3] 97 (0, 0)) (bP BKz2.out) hb); replace HB := aS HB hb; clear hb))
  repeat (go_quiet (fail); try go_wp2_with (first | ((with_reducible refine gate_dst (N := 2) rfl ?_); refine boxF 2 #[.slice A0_0 l0_0.length c0_0, .slice A0_1 l0_1.length c0_1, .slice A0_2 l0_2.length c0_2, .int .i64 a0_3, .slice A0_4 l0_4.length c0_4, .slice A0_5 l0_5.length c0_5, .slice A0_6 l0_6.length c0_6, .int .i64 a0_7] 43 ?_; intro gbz1 hg wz1 hbox hb; have BKz1 := aM (hbox); have GWz1 := aG hg HB; have GEz1 := aG hg HB; replace HB := aS HB hb; clear hb hbox hg; obtain ⟨hczz1, hczz2, hczz3, hczz4, hczz5, hczz6, hczz7, hczz8, hfzz1, hfzz2, hfzz3, hfzz4, hfzz5, hfzz6, hfzz7, hfzz8⟩ := cZ8 BKz1.out; have pz1 : 0 ≤ (a1 : Int) := odA; have qz1 : a1 < (l0_2.length : Int) := odA; obtain ⟨adz1, Az1, cz1, Az2, cz2, Az3, cz3, ez1, hxz1, hxz2, hxz3, hxz4, hxz5, hlz1, hiz1, hlz2, hiz2, hlz3, hiz3⟩ := at_T97 HR0_2.out a1 pz1 qz1; cases ez1; replace hxz1 := bc HB.out hxz1; replace hxz2 := bc HB.out hxz2; replace hxz3 := bc HB.out hxz3; replace hxz4 := bc HB.out hxz4; replace hxz5 := bc HB.out hxz5; have HRz1 := aM hiz1; have HCz1 := aM hlz1; clear hiz1 hlz1; have HRz2 := aM hiz2; have HCz2 := aM hlz2; clear hiz2 hlz2; have HRz3 := aM hiz3; have HCz3 := aM hlz3; clear hiz3 hlz3; replace pz1 := eq_true pz1; replace qz1 := eq_true qz1) | ((with_reducible refine gate_dst (N := 5) rfl ?_); refine boxF 5 #[.slice none 0 0, .int .i64 0, .bool false, .slice none 0 0, .slice none 0 0] 97 ?_; intro gbz2 hg wz2 hbox hb; have BKz2 := aM (hbox); have GWz2 := aG hg HB; have GEz2 := aG hg HB; have NBz1 := aL hg BKz1; have NBz2 := aR hg BKz1; replace BKz1 := aB BKz1 hb; replace HB := aS HB hb; clear hb hbox hg; have hnbz1 := NBz2.out; have hncz1 := NBz1.out; obtain ⟨hczz9, hczz10, hczz11, hczz12, hczz13, hfzz9, hfzz10, hfzz11, hfzz12, hfzz13⟩ := cZ5 BKz2.out; obtain ⟨hczz14, hczz15, hczz16, hczz17, hczz18, hczz19, hczz20, hczz21, hfzz14, hfzz15, hfzz16, hfzz17, hfzz18, hfzz19, hfzz20, hfzz21⟩ := cZ8 BKz1.out) | (go_at_call 163; (with_reducible refine (spec_l9Last.calls _ _ _ _ _ _ _ _ _ _ _ _ _ _ _ _ _ _ _ _ _ _ _ _ (by exact Kd.C_below HR0_0.out (hX HB.out)) HC0_0.out (by exact Kd.C_below HR0_1.out (hX HB.out)) HC0_1.out (by exact Kd.C_below HR0_2.out (hX HB.out)) HC0_2.out (by exact Kd.C_below HR0_4.out (hX HB.out)) HC0_4.out (by exact Kd.C_below HR0_5.out (hX HB.out)) HC0_5.out (by exact Kd.C_below HR0_6.out (hX HB.out)) HC0_6.out A5.out).mono ?_); rintro e wz3 ⟨rfl, hb⟩; replace BKz1 := aF BKz1 hb; replace BKz2 := aM (blk_below (g := gbz2) (o := .cells #[.slice Az1 ((rd_T97 l0_2 a1).f0).length cz1, .int .i64 ((rd_T97 l0_2 a1).f1), .bool ((rd_T97 l0_2 a1).f2), .slice Az2 ((rd_T97 l0_2 a1).f3).length cz2, .slice Az3 ((rd_T97 l0_2 a1).f4).length cz3] 97 (0, 0)) (bP BKz2.out) hb); replace HB := aS HB hb; clear hb)))
  go_loopg [7, 8] k (fun kq v7 v8 w' => ∃ (x7_1 : Int) (x8_1 : Int), v7 = .int .i64 x7_1 ∧ v8 = .int .i64 x8_1 ∧ Aside0 (spec_l9Thread.l0 kq a1 t104 x7_1 x8_1 l0_0 l0_1 l0_2 a0_3 l0_4 l0_5 l0_6 a0_7 ((rd_T97 l0_2 a1).f0) ((rd_T97 l0_2 a1).f1) ((rd_T97 l0_2 a1).f2) ((rd_T97 l0_2 a1).f3) ((rd_T97 l0_2 a1).f4) = some r) ∧ Aside0 (kq ≤ k) ∧ Aside0 (w'.heap[gbz1]? = some (.cells #[(.slice A0_0 l0_0.length c0_0), (.slice A0_1 l0_1.length c0_1), (.slice (some adz1) l0_2.length c0_2), .int .i64 a0_3, (.slice A0_4 l0_4.length c0_4), (.slice A0_5 l0_5.length c0_5), (.slice A0_6 l0_6.length c0_6), .int .i64 a0_7] 43 (0, 0))) ∧ Aside0 (w'.heap[gbz2]? = some (.cells #[(.slice Az1 ((rd_T97 l0_2 a1).f0).length cz1), .int .i64 ((rd_T97 l0_2 a1).f1), .bool ((rd_T97 l0_2 a1).f2), (.slice Az2 ((rd_T97 l0_2 a1).f3).length cz2), (.slice Az3 ((rd_T97 l0_2 a1).f4).length cz3)] 97 (0, 0))) ∧ Aside0 (Below w.heap.size w w'))
  case atStart => exact ⟨(0), (0), rS, rS, H', ⟨Nat.le_refl _⟩, ⟨(bX BKz1.out)⟩, ⟨(bX BKz2.out)⟩, ⟨(hX HB.out)⟩⟩
  case round =>
    clear H'
    try clear p1
    try clear q1
    try clear hx1
    try clear p2
    try clear c3
    try clear c3b0
    try clear c4
    try clear c4b0
    try clear p10
    try clear q10
    try clear hx10
    try clear hczz9 hczz10 hczz11 hczz12 hczz13 hfzz9 hfzz10 hfzz11 hfzz12 hfzz13
    try clear hczz14 hczz15 hczz16 hczz17 hczz18 hczz19 hczz20 hczz21 hfzz14 hfzz15 hfzz16 hfzz17 hfzz18 hfzz19 hfzz20 hfzz21
    try clear hczz1 hczz2 hczz3 hczz4 hczz5 hczz6 hczz7 hczz8 hfzz1 hfzz2 hfzz3 hfzz4 hfzz5 hfzz6 hfzz7 hfzz8
    try clear hxz1
    try clear hxz2
    try clear hxz3
    try clear hxz4
    try clear hxz5
    try clear pz1
    try clear qz1
    obtain ⟨x7_1, x8_1, rfl, rfl, HA, HKy1, BKz1, BKz2, HB⟩ := hrel
    cases gk with
    | zero => exact absurd HA.out (by simp [spec_l9Thread.l0])
    | succ k1 =>
      have H := HA.out
      clear HA
      simp only [spec_l9Thread.l0] at H
      by_cases c13 : x8_1 < (l0_4.length : Int)
      case neg =>
        rw [if_neg c13] at H
        have c13b0 := decide_eq_false c13
        clear c13
        by_cases c32 : x7_1 = ((rd_T97 l0_2 a1).f1)
        case neg =>
          rw [if_neg c32] at H
          obtain ⟨c32b0, c32b1⟩ := eqF c32
          obtain rfl := sI H
          have hnbx1 := NBz1.out
          have hncx1 := NBz2.out
          obtain ⟨hczx1, hczx2, hczx3, hczx4, hczx5, hczx6, hczx7, hczx8, hfzx1, hfzx2, hfzx3, hfzx4, hfzx5, hfzx6, hfzx7, hfzx8⟩ := cZ8 BKz1.out
          obtain ⟨hczx9, hczx10, hczx11, hczx12, hczx13, hfzx9, hfzx10, hfzx11, hfzx12, hfzx13⟩ := cZ5 BKz2.out
          go_wp2
          repeat (go_quiet (fail); try go_wp2)
          go_ret
          exact ⟨rE, (hX HB.out)⟩
        rw [if_pos c32] at H
        obtain ⟨c32b0, c32b1⟩ := eqT c32
        clear c32
        by_cases c33 : ((rd_T97 l0_2 a1).f2) = true
        case neg =>
          rw [if_neg c33] at H
          have c33b0 : ((rd_T97 l0_2 a1).f2) = false := by simpa using c33
          clear c33
          obtain rfl := sI H
          have hnbx1 := NBz1.out
          have hncx1 := NBz2.out
          obtain ⟨hczx1, hczx2, hczx3, hczx4, hczx5, hczx6, hczx7, hczx8, hfzx1, hfzx2, hfzx3, hfzx4, hfzx5, hfzx6, hfzx7, hfzx8⟩ := cZ8 BKz1.out
          obtain ⟨hczx9, hczx10, hczx11, hczx12, hczx13, hfzx9, hfzx10, hfzx11, hfzx12, hfzx13⟩ := cZ5 BKz2.out
          go_wp2
          repeat (go_quiet (fail); try go_wp2)
          go_ret
          exact ⟨rE, (hX HB.out)⟩
        rw [if_pos c33] at H
        have c33b0 : ((rd_T97 l0_2 a1).f2) = true := c33
        clear c33
        by_cases c34 : t104 ≥ 0
        case neg =>
          rw [if_neg c34] at H
          have c34b0 := decide_eq_false c34
          clear c34
          obtain rfl := sI H
          have hnbx1 := NBz1.out
          have hncx1 := NBz2.out
          obtain ⟨hczx1, hczx2, hczx3, hczx4, hczx5, hczx6, hczx7, hczx8, hfzx1, hfzx2, hfzx3, hfzx4, hfzx5, hfzx6, hfzx7, hfzx8⟩ := cZ8 BKz1.out
          obtain ⟨hczx9, hczx10, hczx11, hczx12, hczx13, hfzx9, hfzx10, hfzx11, hfzx12, hfzx13⟩ := cZ5 BKz2.out
          go_wp2
          repeat (go_quiet (fail); try go_wp2)
          go_ret
          exact ⟨rE, (hX HB.out)⟩
        rw [if_pos c34] at H
        have c34b0 := decide_eq_true c34
        clear c34
        replace H := ifP H; obtain ⟨c35, H⟩ := H
        have c35b0 := decide_eq_true c35
        clear c35
        replace H := ifP H; obtain ⟨c36, H⟩ := H
        have c36b0 := decide_eq_true c36
        clear c36
        by_cases c37 : ((rd_T73 l0_4 t104).f4) = (-1)
        case neg =>
          rw [if_neg c37] at H
          obtain ⟨c37b0, c37b1⟩ := eqF c37
          obtain rfl := sI H
          have hnbx1 := NBz1.out
          have hncx1 := NBz2.out
          obtain ⟨hczx1, hczx2, hczx3, hczx4, hczx5, hczx6, hczx7, hczx8, hfzx1, hfzx2, hfzx3, hfzx4, hfzx5, hfzx6, hfzx7, hfzx8⟩ := cZ8 BKz1.out
          obtain ⟨hczx9, hczx10, hczx11, hczx12, hczx13, hfzx9, hfzx10, hfzx11, hfzx12, hfzx13⟩ := cZ5 BKz2.out
          have px1 : 0 ≤ (t104 : Int) := odA
          have qx1 : t104 < (l0_4.length : Int) := odA
          obtain ⟨adx1, Ax1, cx1, ex1, hxx1, hxx2, hxx3, hxx4, hxx5, hxx6, hxx7, hxx8, hxx9, hlx1, hix1⟩ := at_T73b HR0_4.out HB.out t104 px1 qx1
          cases ex1
          have HRx1 := aM hix1
          have HCx1 := aM hlx1
          clear hix1 hlx1
          replace px1 := eq_true px1
          replace qx1 := eq_true qx1
          go_wp2
          repeat (go_quiet (fail); try go_wp2)
          go_ret
          exact ⟨rE, (hX HB.out)⟩
        rw [if_pos c37] at H
        obtain ⟨c37b0, c37b1⟩ := eqT c37
        clear c37
        replace H := ifP H; obtain ⟨c38, H⟩ := H
        have c38b0 := decide_eq_true c38
        clear c38
        replace H := ifP H; obtain ⟨c39, H⟩ := H
        have c39b0 := decide_eq_true c39
        clear c39
        obtain rfl := sI H
        have hnbx1 := NBz1.out
        have hncx1 := NBz2.out
        obtain ⟨hczx1, hczx2, hczx3, hczx4, hczx5, hczx6, hczx7, hczx8, hfzx1, hfzx2, hfzx3, hfzx4, hfzx5, hfzx6, hfzx7, hfzx8⟩ := cZ8 BKz1.out
        obtain ⟨hczx9, hczx10, hczx11, hczx12, hczx13, hfzx9, hfzx10, hfzx11, hfzx12, hfzx13⟩ := cZ5 BKz2.out
        have px1 : 0 ≤ (t104 : Int) := odA
        have qx1 : t104 < (l0_4.length : Int) := odA
        obtain ⟨adx1, Ax1, cx1, ex1, hxx1, hxx2, hxx3, hxx4, hxx5, hxx6, hxx7, hxx8, hxx9, hlx1, hix1⟩ := at_T73b HR0_4.out HB.out t104 px1 qx1
        cases ex1
        have HRx1 := aM hix1
        have HCx1 := aM hlx1
        clear hix1 hlx1
        replace px1 := eq_true px1
        replace qx1 := eq_true qx1
        have px2 : 0 ≤ (t104 : Int) := odA
        have qx2 : t104 < (l0_4.length : Int) := odA
        obtain ⟨adx2, Ax2, cx2, ex2, hxx10, hxx11, hxx12, hxx13, hxx14, hxx15, hxx16, hxx17, hxx18, hlx2, hix2⟩ := at_T73b HR0_4.out HB.out t104 px2 qx2
        obtain rfl : adx1 = adx2 := (by injection ex2)
        have HRx2 := aM hix2
        have HCx2 := aM hlx2
        clear hix2 hlx2
        replace px2 := eq_true px2
        replace qx2 := eq_true qx2
        have ea_ := Option.some.inj (hxx9.symm.trans hxx18)
        injection ea_ with ea_ en_ ec_
        subst ea_
        subst ec_
        clear en_
        have px3 : 0 ≤ (((rd_T97 l0_2 a1).f1) : Int) := odA
        have qx3 : ((rd_T97 l0_2 a1).f1) < (((rd_T97 l0_2 a1).f0).length : Int) := odA
        obtain ⟨adx3, ex3, hxx19, hxx20, hxx21⟩ := at_T69b HRz1.out HB.out ((rd_T97 l0_2 a1).f1) px3 qx3
        cases ex3
        replace px3 := eq_true px3
        replace qx3 := eq_true qx3
        go_wp2
        repeat (go_quiet (fail); try go_wp2)
        go_ret
        exact ⟨rE, (hX HB.out)⟩
      rw [if_pos c13] at H
      have c13b0 := decide_eq_true c13
      clear c13
      replace H := ifP H; obtain ⟨c14, H⟩ := H
      have c14b0 := decide_eq_true c14
      clear c14
      by_cases c15 : ((rd_T73 l0_4 x8_1).f0) = a1
      case neg =>
        rw [if_neg c15] at H
        obtain ⟨c15b0, c15b1⟩ := eqF c15
        have H' := aM H
        clear H
        have hnbx1 := NBz1.out
        have hncx1 := NBz2.out
        obtain ⟨hczx1, hczx2, hczx3, hczx4, hczx5, hczx6, hczx7, hczx8, hfzx1, hfzx2, hfzx3, hfzx4, hfzx5, hfzx6, hfzx7, hfzx8⟩ := cZ8 BKz1.out
        have px1 : 0 ≤ (x8_1 : Int) := odA
        have qx1 : x8_1 < (l0_4.length : Int) := odA
        obtain ⟨adx1, Ax1, cx1, ex1, hxx1, hxx2, hxx3, hxx4, hxx5, hxx6, hxx7, hxx8, hxx9, hlx1, hix1⟩ := at_T73b HR0_4.out HB.out x8_1 px1 qx1
        cases ex1
        have HRx1 := aM hix1
        have HCx1 := aM hlx1
        clear hix1 hlx1
        replace px1 := eq_true px1
        replace qx1 := eq_true qx1
        go_wp2
        repeat (go_quiet (fail); try go_wp2)
        go_roundg k1
        case measure => have := HKy1.out; omega
        case rel => exact ⟨(x7_1), (wrap64 (x8_1 + 1)), rS, rS, H', ⟨by have := HKy1.out; omega⟩, ⟨(bX BKz1.out)⟩, ⟨(bX BKz2.out)⟩, ⟨(hX HB.out)⟩⟩
      rw [if_pos c15] at H
      obtain ⟨c15b0, c15b1⟩ := eqT c15
      clear c15
      by_cases c16 : ((rd_T73 l0_4 x8_1).f4) ≥ 0
      · rw [if_pos c16] at H
        have c16b0 := decide_eq_true c16
        clear c16
        have H' := aM H
        clear H
        have hnbx1 := NBz1.out
        have hncx1 := NBz2.out
        obtain ⟨hczx1, hczx2, hczx3, hczx4, hczx5, hczx6, hczx7, hczx8, hfzx1, hfzx2, hfzx3, hfzx4, hfzx5, hfzx6, hfzx7, hfzx8⟩ := cZ8 BKz1.out
        have px1 : 0 ≤ (x8_1 : Int) := odA
        have qx1 : x8_1 < (l0_4.length : Int) := odA
        obtain ⟨adx1, Ax1, cx1, ex1, hxx1, hxx2, hxx3, hxx4, hxx5, hxx6, hxx7, hxx8, hxx9, hlx1, hix1⟩ := at_T73b HR0_4.out HB.out x8_1 px1 qx1
        cases ex1
        have HRx1 := aM hix1
        have HCx1 := aM hlx1
        clear hix1 hlx1
        replace px1 := eq_true px1
        replace qx1 := eq_true qx1
        have px2 : 0 ≤ (x8_1 : Int) := odA
        have qx2 : x8_1 < (l0_4.length : Int) := odA
        obtain ⟨adx2, Ax2, cx2, ex2, hxx10, hxx11, hxx12, hxx13, hxx14, hxx15, hxx16, hxx17, hxx18, hlx2, hix2⟩ := at_T73b HR0_4.out HB.out x8_1 px2 qx2
        obtain rfl : adx1 = adx2 := (by injection ex2)
        have HRx2 := aM hix2
        have HCx2 := aM hlx2
        clear hix2 hlx2
        replace px2 := eq_true px2
        replace qx2 := eq_true qx2
        have ea_ := Option.some.inj (hxx9.symm.trans hxx18)
        injection ea_ with ea_ en_ ec_
        subst ea_
        subst ec_
        clear en_
        go_wp2
        repeat (go_quiet (fail); try go_wp2)
        go_roundg k1
        case measure => have := HKy1.out; omega
        case rel => exact ⟨(wrap64 (x7_1 + 1)), (wrap64 (x8_1 + 1)), rS, rS, H', ⟨by have := HKy1.out; omega⟩, ⟨(bX BKz1.out)⟩, ⟨(bX BKz2.out)⟩, ⟨(hX HB.out)⟩⟩
      rw [if_neg c16] at H
      have c16b0 := decide_eq_false c16
      clear c16
      by_cases c19 : ((rd_T97 l0_2 a1).f2) = true
      case neg =>
        rw [if_neg c19] at H
        have c19b0 : ((rd_T97 l0_2 a1).f2) = false := by simpa using c19
        clear c19
        obtain rfl := sI H
        have hnbx1 := NBz1.out
        have hncx1 := NBz2.out
        obtain ⟨hczx1, hczx2, hczx3, hczx4, hczx5, hczx6, hczx7, hczx8, hfzx1, hfzx2, hfzx3, hfzx4, hfzx5, hfzx6, hfzx7, hfzx8⟩ := cZ8 BKz1.out
        have px1 : 0 ≤ (x8_1 : Int) := odA
        have qx1 : x8_1 < (l0_4.length : Int) := odA
        obtain ⟨adx1, Ax1, cx1, ex1, hxx1, hxx2, hxx3, hxx4, hxx5, hxx6, hxx7, hxx8, hxx9, hlx1, hix1⟩ := at_T73b HR0_4.out HB.out x8_1 px1 qx1
        cases ex1
        have HRx1 := aM hix1
        have HCx1 := aM hlx1
        clear hix1 hlx1
        replace px1 := eq_true px1
        replace qx1 := eq_true qx1
        have px2 : 0 ≤ (x8_1 : Int) := odA
        have qx2 : x8_1 < (l0_4.length : Int) := odA
        obtain ⟨adx2, Ax2, cx2, ex2, hxx10, hxx11, hxx12, hxx13, hxx14, hxx15, hxx16, hxx17, hxx18, hlx2, hix2⟩ := at_T73b HR0_4.out HB.out x8_1 px2 qx2
        obtain rfl : adx1 = adx2 := (by injection ex2)
        have HRx2 := aM hix2
        have HCx2 := aM hlx2
        clear hix2 hlx2
        replace px2 := eq_true px2
        replace qx2 := eq_true qx2
        have ea_ := Option.some.inj (hxx9.symm.trans hxx18)
        injection ea_ with ea_ en_ ec_
        subst ea_
        subst ec_
        clear en_
        obtain ⟨hczx9, hczx10, hczx11, hczx12, hczx13, hfzx9, hfzx10, hfzx11, hfzx12, hfzx13⟩ := cZ5 BKz2.out
        go_wp2
        repeat (go_quiet (fail); try go_wp2)
        go_ret
        exact ⟨rE, (hX HB.out)⟩
      rw [if_pos c19] at H
      have c19b0 : ((rd_T97 l0_2 a1).f2) = true := c19
      clear c19
      by_cases c20 : x8_1 = t104
      case neg =>
        rw [if_neg c20] at H
        obtain ⟨c20b0, c20b1⟩ := eqF c20
        obtain rfl := sI H
        have hnbx1 := NBz1.out
        have hncx1 := NBz2.out
        obtain ⟨hczx1, hczx2, hczx3, hczx4, hczx5, hczx6, hczx7, hczx8, hfzx1, hfzx2, hfzx3, hfzx4, hfzx5, hfzx6, hfzx7, hfzx8⟩ := cZ8 BKz1.out
        have px1 : 0 ≤ (x8_1 : Int) := odA
        have qx1 : x8_1 < (l0_4.length : Int) := odA
        obtain ⟨adx1, Ax1, cx1, ex1, hxx1, hxx2, hxx3, hxx4, hxx5, hxx6, hxx7, hxx8, hxx9, hlx1, hix1⟩ := at_T73b HR0_4.out HB.out x8_1 px1 qx1
        cases ex1
        have HRx1 := aM hix1
        have HCx1 := aM hlx1
        clear hix1 hlx1
        replace px1 := eq_true px1
        replace qx1 := eq_true qx1
        have px2 : 0 ≤ (x8_1 : Int) := odA
        have qx2 : x8_1 < (l0_4.length : Int) := odA
        obtain ⟨adx2, Ax2, cx2, ex2, hxx10, hxx11, hxx12, hxx13, hxx14, hxx15, hxx16, hxx17, hxx18, hlx2, hix2⟩ := at_T73b HR0_4.out HB.out x8_1 px2 qx2
        obtain rfl : adx1 = adx2 := (by injection ex2)
        have HRx2 := aM hix2
        have HCx2 := aM hlx2
        clear hix2 hlx2
        replace px2 := eq_true px2
        replace qx2 := eq_true qx2
        have ea_ := Option.some.inj (hxx9.symm.trans hxx18)
        injection ea_ with ea_ en_ ec_
        subst ea_
        subst ec_
        clear en_
        obtain ⟨hczx9, hczx10, hczx11, hczx12, hczx13, hfzx9, hfzx10, hfzx11, hfzx12, hfzx13⟩ := cZ5 BKz2.out
        go_wp2
        repeat (go_quiet (fail); try go_wp2)
        go_ret
        exact ⟨rE, (hX HB.out)⟩
      rw [if_pos c20] at H
      obtain ⟨c20b0, c20b1⟩ := eqT c20
      clear c20
      have H' := aM H
      clear H
      have hnbx1 := NBz1.out
      have hncx1 := NBz2.out
      obtain ⟨hczx1, hczx2, hczx3, hczx4, hczx5, hczx6, hczx7, hczx8, hfzx1, hfzx2, hfzx3, hfzx4, hfzx5, hfzx6, hfzx7, hfzx8⟩ := cZ8 BKz1.out
      have px1 : 0 ≤ (x8_1 : Int) := odA
      have qx1 : x8_1 < (l0_4.length : Int) := odA
      obtain ⟨adx1, Ax1, cx1, ex1, hxx1, hxx2, hxx3, hxx4, hxx5, hxx6, hxx7, hxx8, hxx9, hlx1, hix1⟩ := at_T73b HR0_4.out HB.out x8_1 px1 qx1
      cases ex1
      have HRx1 := aM hix1
      have HCx1 := aM hlx1
      clear hix1 hlx1
      replace px1 := eq_true px1
      replace qx1 := eq_true qx1
      have px2 : 0 ≤ (x8_1 : Int) := odA
      have qx2 : x8_1 < (l0_4.length : Int) := odA
      obtain ⟨adx2, Ax2, cx2, ex2, hxx10, hxx11, hxx12, hxx13, hxx14, hxx15, hxx16, hxx17, hxx18, hlx2, hix2⟩ := at_T73b HR0_4.out HB.out x8_1 px2 qx2
      obtain rfl : adx1 = adx2 := (by injection ex2)
      have HRx2 := aM hix2
      have HCx2 := aM hlx2
      clear hix2 hlx2
      replace px2 := eq_true px2
      replace qx2 := eq_true qx2
      have ea_ := Option.some.inj (hxx9.symm.trans hxx18)
      injection ea_ with ea_ en_ ec_
      subst ea_
      subst ec_
      clear en_
      obtain ⟨hczx9, hczx10, hczx11, hczx12, hczx13, hfzx9, hfzx10, hfzx11, hfzx12, hfzx13⟩ := cZ5 BKz2.out
      generalize hvb_ : Value.bool ((rd_T97 l0_2 a1).f2) = vb_
      have HVb_ := aM hvb_
      clear hvb_
      go_wp2
      repeat (go_quiet (fail); try go_wp2)
      have hvb_ := HVb_.out
      clear HVb_
      subst hvb_
      go_roundg k1
      case measure => have := HKy1.out; omega
      case rel => exact ⟨(x7_1), (wrap64 (x8_1 + 1)), rS, rS, H', ⟨by have := HKy1.out; omega⟩, ⟨(bX BKz1.out)⟩, ⟨(bX BKz2.out)⟩, ⟨(hX HB.out)⟩⟩
end Go.Proofs.YtmljebgideecjaaGreat.P2
namespace Go.Proofs.YtmljebgideecjaaGreat.P2
open Go.Proofs.YtmljebgideecjaaGreatZ Go.RowKit Go.Proofs.YtmljebgideecjaaGreatW.PrintWords Go.Proofs.YtmljebgideecjaaGreatW.PrintLast Go.Proofs.YtmljebgideecjaaGreatW.PrintMore
attribute [local go_sem] max2_int min2_int max_two min_two max_three min_three max_four min_four   -- for this text's walks alone
mutual
def spec_MachineOk.j0 : Nat → Bool → List (S140) → List (S162) → List (S97) → Int → List (S73) → List Int → List Int → Int → Option (Bool)
  | 0, _, _, _, _, _, _, _, _, _ => none
  | k + 1, x34, x102000, x102001, x102002, x102003, x102004, x102005, x102006, x102007 => if x34 = true then (some false) else (spec_MachineOk.l0 k 0 x102000 x102001 x102002 x102003 x102004 x102005 x102006 x102007)
def spec_MachineOk.l0 : Nat → Int → List (S140) → List (S162) → List (S97) → Int → List (S73) → List Int → List Int → Int → Option (Bool)
  | 0, _, _, _, _, _, _, _, _, _ => none
  | k + 1, x3, x102000, x102001, x102002, x102003, x102004, x102005, x102006, x102007 => if x3 < (x102002.length : Int) then (if 0 ≤ x3 then ((spec_ThreadOk.f k ((rd_T97 x102002 x3).f0) ((rd_T97 x102002 x3).f1) ((rd_T97 x102002 x3).f2) ((rd_T97 x102002 x3).f3) ((rd_T97 x102002 x3).f4) (x102002.length : Int)).bind fun t107 => (if t107 = true then ((spec_l9Thread.f k x102000 x102001 x102002 x102003 x102004 x102005 x102006 x102007 x3).bind fun t108 => (if t108 = true then (spec_MachineOk.l0 k (wrap64 (x3 + 1)) x102000 x102001 x102002 x102003 x102004 x102005 x102006 x102007) else (some false))) else (some false))) else (none)) else (some true)
end
def spec_MachineOk.f (k : Nat) (l0_0 : List (S140)) (l0_1 : List (S162)) (l0_2 : List (S97)) (a0_3 : Int) (l0_4 : List (S73)) (l0_5 : List Int) (l0_6 : List Int) (a0_7 : Int) : Option (Bool) := (spec_MemOk.f k l0_0 l0_1).bind fun t102 => (if t102 = true then (if (l0_1.length : Int) = (l0_2.length : Int) then ((spec_l1In.f a0_3 0 100000).bind fun t103 => (if t103 = true then ((spec_RowsOk.f k l0_6 a0_7).bind fun t104 => (if t104 = true then ((spec_l9Calls.f k l0_0 l0_1 l0_2 a0_3 l0_4 l0_5 l0_6 a0_7).bind fun t105 => (spec_MachineOk.j0 k (!t105) l0_0 l0_1 l0_2 a0_3 l0_4 l0_5 l0_6 a0_7)) else (spec_MachineOk.j0 k true l0_0 l0_1 l0_2 a0_3 l0_4 l0_5 l0_6 a0_7))) else (spec_MachineOk.j0 k true l0_0 l0_1 l0_2 a0_3 l0_4 l0_5 l0_6 a0_7))) else (spec_MachineOk.j0 k true l0_0 l0_1 l0_2 a0_3 l0_4 l0_5 l0_6 a0_7)) else (spec_MachineOk.j0 k true l0_0 l0_1 l0_2 a0_3 l0_4 l0_5 l0_6 a0_7))
def spec_MachineOk.T6 : Bool × List (List Nat × List Nat) := (true, [([], []), ([0], [0]), ([], []), ([1, 2], [1, 2]), ([3], [3]), ([], []), ([5], [5]), ([6], [6]), ([4, 7], [4, 7]), ([8], [8]), ([9, 8], [9]), ([10], [10]), ([10], [10]), ([11, 12, 10, 10], [10, 11, 12]), ([13, 10], [10, 13]), ([10, 14], [10, 14])])
def spec_MachineOk.B6 : List Nat := [0, 1, 0, 7, 15, 0, 32, 96, 255, 511, 1023, 2047, 2047, 8191, 16383, 32767]
theorem spec_MachineOk.tab6 : rtab .any (opsOf Tryz.f42 6) = spec_MachineOk.T6 := by kernel_rfl
theorem spec_MachineOk.bits6 : waitsOk spec_MachineOk.T6.2 spec_MachineOk.B6 = true := by kernel_rfl
set_option maxHeartbeats 8000000 in
set_option maxRecDepth 100000 in
theorem spec_MachineOk.calls (k : Nat) (A0_0 : Option Addr) (c0_0 : Nat) (l0_0 : List (S140)) (A0_1 : Option Addr) (c0_1 : Nat) (l0_1 : List (S162)) (A0_2 : Option Addr) (c0_2 : Nat) (l0_2 : List (S97)) (a0_3 : Int) (A0_4 : Option Addr) (c0_4 : Nat) (l0_4 : List (S73)) (A0_5 : Option Addr) (c0_5 : Nat) (l0_5 : List Int) (A0_6 : Option Addr) (c0_6 : Nat) (l0_6 : List Int) (a0_7 : Int) (r : Bool) (w : World) (hr0_0 : Kd.C k140 w A0_0 l0_0.length l0_0) (hc0_0 : l0_0.length ≤ c0_0) (hr0_1 : Kd.C k162 w A0_1 l0_1.length l0_1) (hc0_1 : l0_1.length ≤ c0_1) (hr0_2 : Kd.C k97 w A0_2 l0_2.length l0_2) (hc0_2 : l0_2.length ≤ c0_2) (hr0_4 : Kd.C k73 w A0_4 l0_4.length l0_4) (hc0_4 : l0_4.length ≤ c0_4) (hr0_5 : Kd.C (Kd.int .i64) w A0_5 l0_5.length l0_5) (hc0_5 : l0_5.length ≤ c0_5) (hr0_6 : Kd.C (Kd.int .i64) w A0_6 l0_6.length l0_6) (hc0_6 : l0_6.length ≤ c0_6) (h : spec_MachineOk.f k l0_0 l0_1 l0_2 a0_3 l0_4 l0_5 l0_6 a0_7 = some r) :
    Calls Tryz.prog 42 #[.agg #[.slice A0_0 l0_0.length c0_0, .slice A0_1 l0_1.length c0_1, .slice A0_2 l0_2.length c0_2, .int .i64 a0_3, .slice A0_4 l0_4.length c0_4, .slice A0_5 l0_5.length c0_5, .slice A0_6 l0_6.length c0_6, .int .i64 a0_7]] w fun e w' => e = .returned (.bool r) ∧ Below w.heap.size w w' := by
  have hu43 := Tryz.underlying43
  have hu38 := Tryz.underlying38
  have hu41 := Tryz.underlying41
  have hu97 := Tryz.underlying97
  have HR0_0 := aM hr0_0
  have HC0_0 := aM hc0_0
  clear hr0_0 hc0_0
  have HR0_1 := aM hr0_1
  have HC0_1 := aM hc0_1
  clear hr0_1 hc0_1
  have HR0_2 := aM hr0_2
  have HC0_2 := aM hc0_2
  clear hr0_2 hc0_2
  have HR0_4 := aM hr0_4
  have HC0_4 := aM hc0_4
  clear hr0_4 hc0_4
  have HR0_5 := aM hr0_5
  have HC0_5 := aM hc0_5
  clear hr0_5 hc0_5
  have HR0_6 := aM hr0_6
  have HC0_6 := aM hc0_6
  clear hr0_6 hc0_6
  have HB := aM (Below.refl w.heap.size w)
  have H := h
  unfold spec_MachineOk.f at H
  clear h
  have HC2 := aM H
  clear H
  go_enter Tryz.func42, Tryz.ntmps42
  go_upto_region 1 with (first | ((with_reducible refine gate_dst (N := 1) rfl ?_); (try (refine gate_guard (by rfl) ?_; dsimp only)); refine boxF 1 #[.slice A0_0 l0_0.length c0_0, .slice A0_1 l0_1.length c0_1, .slice A0_2 l0_2.length c0_2, .int .i64 a0_3, .slice A0_4 l0_4.length c0_4, .slice A0_5 l0_5.length c0_5, .slice A0_6 l0_6.length c0_6, .int .i64 a0_7] 43 ?_; intro gbz1 hg wz1 hbox hb; have BKz1 := aM (hbox); have GWz1 := aG hg HB; have GEz1 := aG hg HB; replace HB := aS HB hb; clear hb hbox hg))
  (try simp only [Act.put, List.setIfInBounds_toArray, List.set_cons_zero, List.set_cons_succ])
  go_cut [34] (fun vz1 wc => ∃ (kq : Nat) (x34_1 : Bool), vz1 = .bool x34_1 ∧ Aside0 (spec_MachineOk.j0 kq x34_1 l0_0 l0_1 l0_2 a0_3 l0_4 l0_5 l0_6 a0_7 = some r) ∧ Aside0 (kq ≤ k) ∧ Aside0 (wc.heap[gbz1]? = some (.cells #[(.slice A0_0 l0_0.length c0_0), (.slice A0_1 l0_1.length c0_1), (.slice A0_2 l0_2.length c0_2), .int .i64 a0_3, (.slice A0_4 l0_4.length c0_4), (.slice A0_5 l0_5.length c0_5), (.slice A0_6 l0_6.length c0_6), .int .i64 a0_7] 43 (0, 0))) ∧ Aside0 (Below w.heap.size w wc))
  case first =>
    have H := HC2.out
    clear HC2
    replace H := bE H; obtain ⟨t102, A4, H⟩ := H
    by_cases c5 : t102 = true
    case neg =>
      replace c5 := Bool.eq_false_iff.mpr c5
      subst c5
      rw [if_neg nft] at H
      have H' := aM H
      clear H
      obtain ⟨hczy1, hczy2, hczy3, hczy4, hczy5, hczy6, hczy7, hczy8, hfzy1, hfzy2, hfzy3, hfzy4, hfzy5, hfzy6, hfzy7, hfzy8⟩ := cZ8 BKz1.out
      go_wp2_with (first | (refine goesM 92 6 Tryz.func92 #[.agg #[.slice A0_0 l0_0.length c0_0, .slice A0_1 l0_1.length c0_1]] ?_; refine (spec_MemOk.calls _ _ _ _ _ _ _ _ _ (cC HR0_0.out HB.out) HC0_0.out (cC HR0_1.out HB.out) HC0_1.out A4.out).mono ?_; rintro e wy1 ⟨rfl, hb⟩; refine ⟨_, rfl, ?_⟩; replace BKz1 := aB BKz1 hb; replace HB := aS HB hb; clear hb))
      go_meet
      case rel => exact ⟨_, (true), rS, H', ⟨by first | omega | exact Nat.le_refl _⟩, ⟨(bX BKz1.out)⟩, ⟨(hX HB.out)⟩⟩
    subst c5
    rw [if_pos rfl] at H
    obtain ⟨hczy1, hczy2, hczy3, hczy4, hczy5, hczy6, hczy7, hczy8, hfzy1, hfzy2, hfzy3, hfzy4, hfzy5, hfzy6, hfzy7, hfzy8⟩ := cZ8 BKz1.out
    go_wp2_with (first | (refine goesM 92 6 Tryz.func92 #[.agg #[.slice A0_0 l0_0.length c0_0, .slice A0_1 l0_1.length c0_1]] ?_; refine (spec_MemOk.calls _ _ _ _ _ _ _ _ _ (cC HR0_0.out HB.out) HC0_0.out (cC HR0_1.out HB.out) HC0_1.out A4.out).mono ?_; rintro e wy1 ⟨rfl, hb⟩; refine ⟨_, rfl, ?_⟩; replace BKz1 := aB BKz1 hb; replace HB := aS HB hb; clear hb; obtain ⟨hczy9, hczy10, hczy11, hczy12, hczy13, hczy14, hczy15, hczy16, hfzy9, hfzy10, hfzy11, hfzy12, hfzy13, hfzy14, hfzy15, hfzy16⟩ := cZ8 BKz1.out; refine Stop.out ?_))
    refine ⟨?_⟩
    by_cases c6 : (l0_1.length : Int) = (l0_2.length : Int)
    case neg =>
      rw [if_neg c6] at H
      obtain ⟨c6b0, c6b1⟩ := eqF c6
      have c6b2 : (l0_1.length == l0_2.length) = false := by first | simpa using c6 | (simp at c6 ⊢; omega)
      (first | rw [c6b0] | (simp only [i64_w, i32_w]; rw [c6b0]) | skip)
      have H' := aM H
      clear H
      go_wp2
      go_meet
      case rel => exact ⟨_, (true), rS, H', ⟨by first | omega | exact Nat.le_refl _⟩, ⟨(bX BKz1.out)⟩, ⟨(hX HB.out)⟩⟩
    rw [if_pos c6] at H
    obtain ⟨c6b0, c6b1⟩ := eqT c6
    have c6b2 : (l0_1.length == l0_2.length) = true := by first | simpa using c6 | (simp at c6 ⊢; omega)
    clear c6
    (first | rw [c6b0] | (simp only [i64_w, i32_w]; rw [c6b0]) | skip)
    replace H := bE H; obtain ⟨t103, A7, H⟩ := H
    by_cases c8 : t103 = true
    case neg =>
      replace c8 := Bool.eq_false_iff.mpr c8
      subst c8
      rw [if_neg nft] at H
      have H' := aM H
      clear H
      go_wp2_with (first | (go_at_call 43; (with_reducible refine (spec_l1In.calls _ _ _ _ _ A7.out).mono ?_); rintro e w' ⟨rfl, ⟨nd, rfl⟩⟩))
      go_meet
      case rel => exact ⟨_, (true), rS, H', ⟨by first | omega | exact Nat.le_refl _⟩, ⟨(bX BKz1.out)⟩, ⟨(hX HB.out)⟩⟩
    subst c8
    rw [if_pos rfl] at H
    replace H := bE H; obtain ⟨t104, A9, H⟩ := H
    go_wp2_with (first | (go_at_call 43; (with_reducible refine (spec_l1In.calls _ _ _ _ _ A7.out).mono ?_); rintro e w' ⟨rfl, ⟨nd, rfl⟩⟩; refine Stop.out ?_))
    refine ⟨?_⟩
    by_cases c10 : t104 = true
    case neg =>
      replace c10 := Bool.eq_false_iff.mpr c10
      subst c10
      rw [if_neg nft] at H
      have H' := aM H
      clear H
      go_wp2_with (first | (go_at_call 93; (with_reducible refine (spec_RowsOk.calls _ _ _ _ _ _ _ (cC HR0_6.out HB.out) HC0_6.out A9.out).mono ?_); rintro e wy2 ⟨rfl, hb⟩; replace BKz1 := aB BKz1 hb; replace HB := aS HB hb; clear hb))
      go_meet
      case rel => exact ⟨_, (true), rS, H', ⟨by first | omega | exact Nat.le_refl _⟩, ⟨(bX BKz1.out)⟩, ⟨(hX HB.out)⟩⟩
    subst c10
    rw [if_pos rfl] at H
    replace H := bE H; obtain ⟨t105, A11, H⟩ := H
    have H' := aM H
    clear H
    go_wp2_with (first | (go_at_call 93; (with_reducible refine (spec_RowsOk.calls _ _ _ _ _ _ _ (cC HR0_6.out HB.out) HC0_6.out A9.out).mono ?_); rintro e wy2 ⟨rfl, hb⟩; replace BKz1 := aB BKz1 hb; replace HB := aS HB hb; clear hb; obtain ⟨hczy17, hczy18, hczy19, hczy20, hczy21, hczy22, hczy23, hczy24, hfzy17, hfzy18, hfzy19, hfzy20, hfzy21, hfzy22, hfzy23, hfzy24⟩ := cZ8 BKz1.out) | (go_at_call 94; (with_reducible refine (spec_l9Calls.calls _ _ _ _ _ _ _ _ _ _ _ _ _ _ _ _ _ _ _ _ _ _ _ (cC HR0_0.out HB.out) HC0_0.out (cC HR0_1.out HB.out) HC0_1.out (cC HR0_2.out HB.out) HC0_2.out (cC HR0_4.out HB.out) HC0_4.out (cC HR0_5.out HB.out) HC0_5.out (cC HR0_6.out HB.out) HC0_6.out A11.out).mono ?_); rintro e wy3 ⟨rfl, hb⟩; replace BKz1 := aB BKz1 hb; replace HB := aS HB hb; clear hb))
    go_meet
    case rel => exact ⟨_, (!t105), rS, H', ⟨by first | omega | exact Nat.le_refl _⟩, ⟨(bX BKz1.out)⟩, ⟨(hX HB.out)⟩⟩
  case rest =>
    clear HC2
    try clear p2
    obtain ⟨kq, x34_1, rfl, HA, HJy1, BKz1, HB⟩ := hcut
    cases kq with
    | zero => exact absurd HA.out (by simp [spec_MachineOk.j0])
    | succ kj1 =>
      have H := HA.out
      clear HA
      simp only [spec_MachineOk.j0] at H
      by_cases c30 : x34_1 = true
      · subst c30
        rw [if_pos rfl] at H
        obtain rfl := sI H
        go_wp2
        go_ret
        exact ⟨rE, (hX HB.out)⟩
      replace c30 := Bool.eq_false_iff.mpr c30
      subst c30
      rw [if_neg nft] at H
      have H' := aM H
      clear H
      go_wp2
      go_loopg [3] kj1 (fun kq v3 w' => ∃ (x3_2 : Int), v3 = .int .i64 x3_2 ∧ Aside0 (spec_MachineOk.l0 kq x3_2 l0_0 l0_1 l0_2 a0_3 l0_4 l0_5 l0_6 a0_7 = some r) ∧ Aside0 (kq ≤ kj1) ∧ Aside0 (w'.heap[gbz1]? = some (.cells #[(.slice A0_0 l0_0.length c0_0), (.slice A0_1 l0_1.length c0_1), (.slice A0_2 l0_2.length c0_2), .int .i64 a0_3, (.slice A0_4 l0_4.length c0_4), (.slice A0_5 l0_5.length c0_5), (.slice A0_6 l0_6.length c0_6), .int .i64 a0_7] 43 (0, 0))) ∧ Aside0 (Below w.heap.size w w'))
      case atStart => exact ⟨(0), rS, H', ⟨Nat.le_refl _⟩, ⟨(bX BKz1.out)⟩, ⟨(hX HB.out)⟩⟩
      case round =>
        clear H'
        try clear p2
        try clear c30
        obtain ⟨x3_2, rfl, HA, HKw1, BKz1, HB⟩ := hrel
        cases gk with
        | zero => exact absurd HA.out (by simp [spec_MachineOk.l0])
        | succ k2 =>
          have H := HA.out
          clear HA
          simp only [spec_MachineOk.l0] at H
          by_cases c31 : x3_2 < (l0_2.length : Int)
          case neg =>
            rw [if_neg c31] at H
            have c31b0 := decide_eq_false c31
            clear c31
            obtain rfl := sI H
            obtain ⟨hczv1, hczv2, hczv3, hczv4, hczv5, hczv6, hczv7, hczv8, hfzv1, hfzv2, hfzv3, hfzv4, hfzv5, hfzv6, hfzv7, hfzv8⟩ := cZ8 BKz1.out
            go_wp2
            go_ret
            exact ⟨rE, (hX HB.out)⟩
          rw [if_pos c31] at H
          have c31b0 := decide_eq_true c31
          clear c31
          replace H := ifP H; obtain ⟨c32, H⟩ := H
          have c32b0 := decide_eq_true c32
          clear c32
          replace H := bE H; obtain ⟨t107, A33, H⟩ := H
          obtain ⟨hczv1, hczv2, hczv3, hczv4, hczv5, hczv6, hczv7, hczv8, hfzv1, hfzv2, hfzv3, hfzv4, hfzv5, hfzv6, hfzv7, hfzv8⟩ := cZ8 BKz1.out
          try go_wp2
          replace BKz1 := aM (blk_drew BKz1.out)
          replace HB := aM (below_drew1 HB.out)
          have pv1 : 0 ≤ (x3_2 : Int) := odA
          have qv1 : x3_2 < (l0_2.length : Int) := odA
          obtain ⟨adv1, Av1, cv1, Av2, cv2, Av3, cv3, ev1, hxv1, hxv2, hxv3, hxv4, hxv5, hlv1, hiv1, hlv2, hiv2, hlv3, hiv3⟩ := at_T97 HR0_2.out x3_2 pv1 qv1
          have hwv1 := hxv5
          have hwv2 := hxv4
          have hwv3 := hxv3
          have hwv4 := hxv2
          have hwv5 := hxv1
          cases ev1
          replace hxv1 := bc HB.out hxv1
          replace hxv2 := bc HB.out hxv2
          replace hxv3 := bc HB.out hxv3
          replace hxv4 := bc HB.out hxv4
          replace hxv5 := bc HB.out hxv5
          have HRv1 := aM hiv1
          have HCv1 := aM hlv1
          clear hiv1 hlv1
          have HRv2 := aM hiv2
          have HCv2 := aM hlv2
          clear hiv2 hlv2
          have HRv3 := aM hiv3
          have HCv3 := aM hlv3
          clear hiv3 hlv3
          replace pv1 := eq_true pv1
          replace qv1 := eq_true qv1
          refine start_ (n := 16) (S := fun w' => w'.cell? ⟨gbz1, 0, none⟩ = some (.slice A0_0 l0_0.length c0_0) ∧ w'.cell? ⟨gbz1, 1, none⟩ = some (.slice A0_1 l0_1.length c0_1) ∧ w'.cell? ⟨gbz1, 2, none⟩ = some (.slice (some adv1) l0_2.length c0_2) ∧ w'.cell? ⟨gbz1, 3, none⟩ = some (.int .i64 a0_3) ∧ w'.cell? ⟨gbz1, 4, none⟩ = some (.slice A0_4 l0_4.length c0_4) ∧ w'.cell? ⟨gbz1, 5, none⟩ = some (.slice A0_5 l0_5.length c0_5) ∧ w'.cell? ⟨gbz1, 6, none⟩ = some (.slice A0_6 l0_6.length c0_6) ∧ w'.cell? ⟨gbz1, 7, none⟩ = some (.int .i64 a0_7) ∧ w'.cell? (adv1.add ((x3_2).toNat * 5)) = some (.slice Av1 ((rd_T97 l0_2 x3_2).f0).length cv1) ∧ w'.cell? ⟨(adv1.add ((x3_2).toNat * 5)).block, (adv1.add ((x3_2).toNat * 5)).off + 1, none⟩ = some (.int .i64 ((rd_T97 l0_2 x3_2).f1)) ∧ w'.cell? ⟨(adv1.add ((x3_2).toNat * 5)).block, (adv1.add ((x3_2).toNat * 5)).off + 2, none⟩ = some (.bool ((rd_T97 l0_2 x3_2).f2)) ∧ w'.cell? ⟨(adv1.add ((x3_2).toNat * 5)).block, (adv1.add ((x3_2).toNat * 5)).off + 3, none⟩ = some (.slice Av2 ((rd_T97 l0_2 x3_2).f3).length cv2) ∧ w'.cell? ⟨(adv1.add ((x3_2).toNat * 5)).block, (adv1.add ((x3_2).toNat * 5)).off + 4, none⟩ = some (.slice Av3 ((rd_T97 l0_2 x3_2).f4).length cv3)) (ds := []) (bm 16 0) (by kernel_rfl) rfl (by kernel_rfl) ⟨cK BKz1.out 0, cK BKz1.out 1, cK BKz1.out 2, cK BKz1.out 3, cK BKz1.out 4, cK BKz1.out 5, cK BKz1.out 6, cK BKz1.out 7, (bc HB.out hwv5 :), (bc HB.out hwv4 :), (bc HB.out hwv3 :), (bc HB.out hwv2 :), (bc HB.out hwv1 :)⟩ (fun hHeld => ?_); refine with_tabW spec_MachineOk.tab6 spec_MachineOk.bits6 (fun HT_ HW_ => ?_)
          generalize wr.drew = wv1 at BKz1 HB HRv1 HRv2 HRv3 hxv1 hxv2 hxv3 hxv4 hxv5 hHeld ⊢
          refine pZ 0 42 (bm 16 1) HT_.out ?_
          refine pZ 2 44 (bm 16 5) HT_.out ?_
          refine pZ 5 47 (bm 16 37) HT_.out ?_
          refine tZ 1 43 (bm 16 39) HT_.out HW_.out hHeld ?_
          refine pZ 3 45 (bm 16 47) HT_.out ?_
          refine tZ 4 46 (bm 16 63) HT_.out HW_.out hHeld ?_
          refine tZ 6 48 (bm 16 127) HT_.out HW_.out hHeld ?_
          refine pZ 7 49 (bm 16 255) HT_.out ?_
          by_cases c34 : t107 = true
          case neg =>
            replace c34 := Bool.eq_false_iff.mpr c34
            subst c34
            rw [if_neg nft] at H
            obtain rfl := sI H
            refine oZ 8 (some 50) (bm 16 511) HT_.out (fun K hK => ?_)
            refine goesN Tryz.func95 #[.agg #[.slice Av1 ((rd_T97 l0_2 x3_2).f0).length cv1, .int .i64 ((rd_T97 l0_2 x3_2).f1), .bool ((rd_T97 l0_2 x3_2).f2), .slice Av2 ((rd_T97 l0_2 x3_2).f3).length cv2, .slice Av3 ((rd_T97 l0_2 x3_2).f4).length cv3], .int .i64 (l0_2.length : Int)] ?_
            with_reducible refine (spec_ThreadOk.calls k2 _ _ ((rd_T97 l0_2 x3_2).f0) ((rd_T97 l0_2 x3_2).f1) ((rd_T97 l0_2 x3_2).f2) _ _ ((rd_T97 l0_2 x3_2).f3) _ _ ((rd_T97 l0_2 x3_2).f4) (l0_2.length : Int) false _ ?side1 ?side2 ?side3 ?side4 ?side5 ?side6 A33.out).mono ?_
            (case side1 => repeat (first | exact (Kd.C_below HRv1.out HB.out) | (with_reducible refine Kd.C_alloc ?_ _) | (with_reducible refine Kd.C_drewN ?_ _) | (with_reducible refine Kd.C_drew ?_)))
            (case side2 => exact HCv1.out)
            (case side3 => repeat (first | exact (Kd.C_below HRv2.out HB.out) | (with_reducible refine Kd.C_alloc ?_ _) | (with_reducible refine Kd.C_drewN ?_ _) | (with_reducible refine Kd.C_drew ?_)))
            (case side4 => exact HCv2.out)
            (case side5 => repeat (first | exact (Kd.C_below HRv3.out HB.out) | (with_reducible refine Kd.C_alloc ?_ _) | (with_reducible refine Kd.C_drewN ?_ _) | (with_reducible refine Kd.C_drew ?_)))
            (case side6 => exact HCv3.out)
            rintro e wv2 ⟨rfl, hb⟩
            refine ⟨_, rfl, ?_⟩
            replace BKz1 := aB BKz1 hb
            replace HB := aS HB hb
            (try clear hb)
            (try clear hb2)
            (try clear hk)
            (try clear hi)
            refine hK.out _ _ ⟨cK BKz1.out 0, cK BKz1.out 1, cK BKz1.out 2, cK BKz1.out 3, cK BKz1.out 4, cK BKz1.out 5, cK BKz1.out 6, cK BKz1.out 7, (bc HB.out hwv5 :), (bc HB.out hwv4 :), (bc HB.out hwv3 :), (bc HB.out hwv2 :), (bc HB.out hwv1 :)⟩ (fun hHeld => ?_)
            clear hK K
            refine nZ 50 ?_
            refine pZ 9 51 (bm 16 1023) HT_.out ?_
            refine pZ 10 52 (bm 16 2047) HT_.out ?_
            refine pU 11 53 (bm 16 4095) HT_.out ?_
            refine pU 12 54 (bm 16 8191) HT_.out ?_
            refine pU 13 55 (bm 16 16383) HT_.out ?_
            refine pU 14 56 (bm 16 32767) HT_.out ?_
            refine pZ 15 57 (bm 16 65535) HT_.out ?_
            refine done_ (done_of HT_.out (by kernel_rfl)) ?_
            try go_wp2
            go_ret
            exact ⟨rE, (hX HB.out)⟩
          subst c34
          rw [if_pos rfl] at H
          replace H := bE H; obtain ⟨t108, A35, H⟩ := H
          refine oZ 8 (some 50) (bm 16 511) HT_.out (fun K hK => ?_)
          refine goesN Tryz.func95 #[.agg #[.slice Av1 ((rd_T97 l0_2 x3_2).f0).length cv1, .int .i64 ((rd_T97 l0_2 x3_2).f1), .bool ((rd_T97 l0_2 x3_2).f2), .slice Av2 ((rd_T97 l0_2 x3_2).f3).length cv2, .slice Av3 ((rd_T97 l0_2 x3_2).f4).length cv3], .int .i64 (l0_2.length : Int)] ?_
          with_reducible refine (spec_ThreadOk.calls k2 _ _ ((rd_T97 l0_2 x3_2).f0) ((rd_T97 l0_2 x3_2).f1) ((rd_T97 l0_2 x3_2).f2) _ _ ((rd_T97 l0_2 x3_2).f3) _ _ ((rd_T97 l0_2 x3_2).f4) (l0_2.length : Int) true _ ?side1 ?side2 ?side3 ?side4 ?side5 ?side6 A33.out).mono ?_
          (case side1 => repeat (first | exact (Kd.C_below HRv1.out HB.out) | (with_reducible refine Kd.C_alloc ?_ _) | (with_reducible refine Kd.C_drewN ?_ _) | (with_reducible refine Kd.C_drew ?_)))
          (case side2 => exact HCv1.out)
          (case side3 => repeat (first | exact (Kd.C_below HRv2.out HB.out) | (with_reducible refine Kd.C_alloc ?_ _) | (with_reducible refine Kd.C_drewN ?_ _) | (with_reducible refine Kd.C_drew ?_)))
          (case side4 => exact HCv2.out)
          (case side5 => repeat (first | exact (Kd.C_below HRv3.out HB.out) | (with_reducible refine Kd.C_alloc ?_ _) | (with_reducible refine Kd.C_drewN ?_ _) | (with_reducible refine Kd.C_drew ?_)))
          (case side6 => exact HCv3.out)
          rintro e wv2 ⟨rfl, hb⟩
          refine ⟨_, rfl, ?_⟩
          replace BKz1 := aB BKz1 hb
          replace HB := aS HB hb
          (try clear hb)
          (try clear hb2)
          (try clear hk)
          (try clear hi)
          refine hK.out _ _ ⟨cK BKz1.out 0, cK BKz1.out 1, cK BKz1.out 2, cK BKz1.out 3, cK BKz1.out 4, cK BKz1.out 5, cK BKz1.out 6, cK BKz1.out 7, (bc HB.out hwv5 :), (bc HB.out hwv4 :), (bc HB.out hwv3 :), (bc HB.out hwv2 :), (bc HB.out hwv1 :)⟩ (fun hHeld => ?_)
          clear hK K
          refine nZ 50 ?_
          refine pZ 9 51 (bm 16 1023) HT_.out ?_
          refine pZ 10 52 (bm 16 2047) HT_.out ?_
          refine pZ 12 54 (bm 16 6143) HT_.out ?_
          refine tZ 11 53 (bm 16 8191) HT_.out HW_.out hHeld ?_
          by_cases c36 : t108 = true
          case neg =>
            replace c36 := Bool.eq_false_iff.mpr c36
            subst c36
            rw [if_neg nft] at H
            obtain rfl := sI H
            refine oZ 13 (some 55) (bm 16 16383) HT_.out (fun K hK => ?_)
            refine goesN Tryz.func96 #[.agg #[.slice A0_0 l0_0.length c0_0, .slice A0_1 l0_1.length c0_1, .slice (some adv1) l0_2.length c0_2, .int .i64 a0_3, .slice A0_4 l0_4.length c0_4, .slice A0_5 l0_5.length c0_5, .slice A0_6 l0_6.length c0_6, .int .i64 a0_7], .int .i64 x3_2] ?_
            with_reducible refine (spec_l9Thread.calls k2 _ _ l0_0 _ _ l0_1 _ _ l0_2 a0_3 _ _ l0_4 _ _ l0_5 _ _ l0_6 a0_7 x3_2 false _ ?side1 ?side2 ?side3 ?side4 ?side5 ?side6 ?side7 ?side8 ?side9 ?side10 ?side11 ?side12 A35.out).mono ?_
            (case side1 => repeat (first | exact (Kd.C_below HR0_0.out HB.out) | (with_reducible refine Kd.C_alloc ?_ _) | (with_reducible refine Kd.C_drewN ?_ _) | (with_reducible refine Kd.C_drew ?_)))
            (case side2 => exact HC0_0.out)
            (case side3 => repeat (first | exact (Kd.C_below HR0_1.out HB.out) | (with_reducible refine Kd.C_alloc ?_ _) | (with_reducible refine Kd.C_drewN ?_ _) | (with_reducible refine Kd.C_drew ?_)))
            (case side4 => exact HC0_1.out)
            (case side5 => repeat (first | exact (Kd.C_below HR0_2.out HB.out) | (with_reducible refine Kd.C_alloc ?_ _) | (with_reducible refine Kd.C_drewN ?_ _) | (with_reducible refine Kd.C_drew ?_)))
            (case side6 => exact HC0_2.out)
            (case side7 => repeat (first | exact (Kd.C_below HR0_4.out HB.out) | (with_reducible refine Kd.C_alloc ?_ _) | (with_reducible refine Kd.C_drewN ?_ _) | (with_reducible refine Kd.C_drew ?_)))
            (case side8 => exact HC0_4.out)
            (case side9 => repeat (first | exact (Kd.C_below HR0_5.out HB.out) | (with_reducible refine Kd.C_alloc ?_ _) | (with_reducible refine Kd.C_drewN ?_ _) | (with_reducible refine Kd.C_drew ?_)))
            (case side10 => exact HC0_5.out)
            (case side11 => repeat (first | exact (Kd.C_below HR0_6.out HB.out) | (with_reducible refine Kd.C_alloc ?_ _) | (with_reducible refine Kd.C_drewN ?_ _) | (with_reducible refine Kd.C_drew ?_)))
            (case side12 => exact HC0_6.out)
            rintro e wv3 ⟨rfl, hb⟩
            refine ⟨_, rfl, ?_⟩
            replace BKz1 := aB BKz1 hb
            replace HB := aS HB hb
            (try clear hb)
            (try clear hb2)
            (try clear hk)
            (try clear hi)
            refine hK.out _ _ ⟨cK BKz1.out 0, cK BKz1.out 1, cK BKz1.out 2, cK BKz1.out 3, cK BKz1.out 4, cK BKz1.out 5, cK BKz1.out 6, cK BKz1.out 7, (bc HB.out hwv5 :), (bc HB.out hwv4 :), (bc HB.out hwv3 :), (bc HB.out hwv2 :), (bc HB.out hwv1 :)⟩ (fun hHeld => ?_)
            clear hK K
            refine nZ 55 ?_
            refine pZ 14 56 (bm 16 32767) HT_.out ?_
            refine pZ 15 57 (bm 16 65535) HT_.out ?_
            refine done_ (done_of HT_.out (by kernel_rfl)) ?_
            try go_wp2
            go_ret
            exact ⟨rE, (hX HB.out)⟩
          subst c36
          rw [if_pos rfl] at H
          have H' := aM H
          clear H
          refine oZ 13 (some 55) (bm 16 16383) HT_.out (fun K hK => ?_)
          refine goesN Tryz.func96 #[.agg #[.slice A0_0 l0_0.length c0_0, .slice A0_1 l0_1.length c0_1, .slice (some adv1) l0_2.length c0_2, .int .i64 a0_3, .slice A0_4 l0_4.length c0_4, .slice A0_5 l0_5.length c0_5, .slice A0_6 l0_6.length c0_6, .int .i64 a0_7], .int .i64 x3_2] ?_
          with_reducible refine (spec_l9Thread.calls k2 _ _ l0_0 _ _ l0_1 _ _ l0_2 a0_3 _ _ l0_4 _ _ l0_5 _ _ l0_6 a0_7 x3_2 true _ ?side1 ?side2 ?side3 ?side4 ?side5 ?side6 ?side7 ?side8 ?side9 ?side10 ?side11 ?side12 A35.out).mono ?_
          (case side1 => repeat (first | exact (Kd.C_below HR0_0.out HB.out) | (with_reducible refine Kd.C_alloc ?_ _) | (with_reducible refine Kd.C_drewN ?_ _) | (with_reducible refine Kd.C_drew ?_)))
          (case side2 => exact HC0_0.out)
          (case side3 => repeat (first | exact (Kd.C_below HR0_1.out HB.out) | (with_reducible refine Kd.C_alloc ?_ _) | (with_reducible refine Kd.C_drewN ?_ _) | (with_reducible refine Kd.C_drew ?_)))
          (case side4 => exact HC0_1.out)
          (case side5 => repeat (first | exact (Kd.C_below HR0_2.out HB.out) | (with_reducible refine Kd.C_alloc ?_ _) | (with_reducible refine Kd.C_drewN ?_ _) | (with_reducible refine Kd.C_drew ?_)))
          (case side6 => exact HC0_2.out)
          (case side7 => repeat (first | exact (Kd.C_below HR0_4.out HB.out) | (with_reducible refine Kd.C_alloc ?_ _) | (with_reducible refine Kd.C_drewN ?_ _) | (with_reducible refine Kd.C_drew ?_)))
          (case side8 => exact HC0_4.out)
          (case side9 => repeat (first | exact (Kd.C_below HR0_5.out HB.out) | (with_reducible refine Kd.C_alloc ?_ _) | (with_reducible refine Kd.C_drewN ?_ _) | (with_reducible refine Kd.C_drew ?_)))
          (case side10 => exact HC0_5.out)
          (case side11 => repeat (first | exact (Kd.C_below HR0_6.out HB.out) | (with_reducible refine Kd.C_alloc ?_ _) | (with_reducible refine Kd.C_drewN ?_ _) | (with_reducible refine Kd.C_drew ?_)))
          (case side12 => exact HC0_6.out)
          rintro e wv3 ⟨rfl, hb⟩
          refine ⟨_, rfl, ?_⟩
          replace BKz1 := aB BKz1 hb
          replace HB := aS HB hb
          (try clear hb)
          (try clear hb2)
          (try clear hk)
          (try clear hi)
          refine hK.out _ _ ⟨cK BKz1.out 0, cK BKz1.out 1, cK BKz1.out 2, cK BKz1.out 3, cK BKz1.out 4, cK BKz1.out 5, cK BKz1.out 6, cK BKz1.out 7, (bc HB.out hwv5 :), (bc HB.out hwv4 :), (bc HB.out hwv3 :), (bc HB.out hwv2 :), (bc HB.out hwv1 :)⟩ (fun hHeld => ?_)
          clear hK K
          refine nZ 55 ?_
          refine pZ 14 56 (bm 16 32767) HT_.out ?_
          refine pZ 15 57 (bm 16 65535) HT_.out ?_
          refine done_ (done_of HT_.out (by kernel_rfl)) ?_
          try go_wp2
          go_roundg k2
          case measure => have := HJy1.out; have := HKw1.out; omega
          case rel => exact ⟨(wrap64 (x3_2 + 1)), rS, H', ⟨by have := HJy1.out; have := HKw1.out; omega⟩, ⟨(bX BKz1.out)⟩, ⟨(hX HB.out)⟩⟩
mutual
def spec_JudgeTimes.l0 : Nat → Int → List (S140) → List (S162) → List (S97) → Int → List (S73) → List Int → List Int → Int → Option (Bool)
  | 0, _, _, _, _, _, _, _, _, _ => none
  | k + 1, x3, x102000, x102001, x102002, x102003, x102004, x102005, x102006, x102007 => if x3 < (x102004.length : Int) then (if 0 ≤ x3 then (if ((rd_T73 x102004 x3).f4) ≥ 0 then ((spec_l1In.f ((rd_T73 x102004 x3).f3) ((rd_T73 x102004 x3).f2) ((rd_T73 x102004 x3).f4)).bind fun t105 => (spec_JudgeTimes.j1 k x3 (!t105) x102000 x102001 x102002 x102003 x102004 x102005 x102006 x102007 ((rd_T73 x102004 x3).f0) ((rd_T73 x102004 x3).f1.f0) ((rd_T73 x102004 x3).f1.f1) ((rd_T73 x102004 x3).f1.f2) ((rd_T73 x102004 x3).f2) ((rd_T73 x102004 x3).f3) ((rd_T73 x102004 x3).f4) ((rd_T73 x102004 x3).f5.f0) ((rd_T73 x102004 x3).f5.f1))) else (spec_JudgeTimes.j1 k x3 false x102000 x102001 x102002 x102003 x102004 x102005 x102006 x102007 ((rd_T73 x102004 x3).f0) ((rd_T73 x102004 x3).f1.f0) ((rd_T73 x102004 x3).f1.f1) ((rd_T73 x102004 x3).f1.f2) ((rd_T73 x102004 x3).f2) ((rd_T73 x102004 x3).f3) ((rd_T73 x102004 x3).f4) ((rd_T73 x102004 x3).f5.f0) ((rd_T73 x102004 x3).f5.f1))) else (none)) else (some true)
def spec_JudgeTimes.j1 : Nat → Int → Bool → List (S140) → List (S162) → List (S97) → Int → List (S73) → List Int → List Int → Int → Int → Int → Int → Int → Int → Int → Int → Int → List Int → Option (Bool)
  | 0, _, _, _, _, _, _, _, _, _, _, _, _, _, _, _, _, _, _, _ => none
  | k + 1, x3, x34, x102000, x102001, x102002, x102003, x102004, x102005, x102006, x102007, x105000, x105001, x105002, x105003, x105004, x105005, x105006, x105007, x105008 => if x34 = true then (some false) else (spec_JudgeTimes.l1 k x3 0 x102000 x102001 x102002 x102003 x102004 x102005 x102006 x102007 x105000 x105001 x105002 x105003 x105004 x105005 x105006 x105007 x105008)
def spec_JudgeTimes.l1 : Nat → Int → Int → List (S140) → List (S162) → List (S97) → Int → List (S73) → List Int → List Int → Int → Int → Int → Int → Int → Int → Int → Int → Int → List Int → Option (Bool)
  | 0, _, _, _, _, _, _, _, _, _, _, _, _, _, _, _, _, _, _, _ => none
  | k + 1, x3, x5, x102000, x102001, x102002, x102003, x102004, x102005, x102006, x102007, x105000, x105001, x105002, x105003, x105004, x105005, x105006, x105007, x105008 => if x5 < x3 then (if 0 ≤ x5 then (if x5 < (x102004.length : Int) then (if ((rd_T73 x102004 x5).f0) = x105000 then (if ((rd_T73 x102004 x5).f4) < 0 then (some false) else (if ((rd_T73 x102004 x5).f4) ≥ x105004 then (some false) else (spec_JudgeTimes.l1 k x3 (wrap64 (x5 + 1)) x102000 x102001 x102002 x102003 x102004 x102005 x102006 x102007 x105000 x105001 x105002 x105003 x105004 x105005 x105006 x105007 x105008))) else (spec_JudgeTimes.l1 k x3 (wrap64 (x5 + 1)) x102000 x102001 x102002 x102003 x102004 x102005 x102006 x102007 x105000 x105001 x105002 x105003 x105004 x105005 x105006 x105007 x105008)) else (none)) else (none)) else (spec_JudgeTimes.l0 k (wrap64 (x3 + 1)) x102000 x102001 x102002 x102003 x102004 x102005 x102006 x102007)
end
def spec_JudgeTimes.f (k : Nat) (l0_0 : List (S140)) (l0_1 : List (S162)) (l0_2 : List (S97)) (a0_3 : Int) (l0_4 : List (S73)) (l0_5 : List Int) (l0_6 : List Int) (a0_7 : Int) : Option (Bool) := (spec_MachineOk.f k l0_0 l0_1 l0_2 a0_3 l0_4 l0_5 l0_6 a0_7).bind fun t102 => (if t102 = true then (spec_JudgeTimes.l0 k 0 l0_0 l0_1 l0_2 a0_3 l0_4 l0_5 l0_6 a0_7) else (some false))
set_option maxHeartbeats 8000000 in
set_option maxRecDepth 100000 in
theorem spec_JudgeTimes.calls (k : Nat) (A0_0 : Option Addr) (c0_0 : Nat) (l0_0 : List (S140)) (A0_1 : Option Addr) (c0_1 : Nat) (l0_1 : List (S162)) (A0_2 : Option Addr) (c0_2 : Nat) (l0_2 : List (S97)) (a0_3 : Int) (A0_4 : Option Addr) (c0_4 : Nat) (l0_4 : List (S73)) (A0_5 : Option Addr) (c0_5 : Nat) (l0_5 : List Int) (A0_6 : Option Addr) (c0_6 : Nat) (l0_6 : List Int) (a0_7 : Int) (r : Bool) (w : World) (hr0_0 : Kd.C k140 w A0_0 l0_0.length l0_0) (hc0_0 : l0_0.length ≤ c0_0) (hr0_1 : Kd.C k162 w A0_1 l0_1.length l0_1) (hc0_1 : l0_1.length ≤ c0_1) (hr0_2 : Kd.C k97 w A0_2 l0_2.length l0_2) (hc0_2 : l0_2.length ≤ c0_2) (hr0_4 : Kd.C k73 w A0_4 l0_4.length l0_4) (hc0_4 : l0_4.length ≤ c0_4) (hr0_5 : Kd.C (Kd.int .i64) w A0_5 l0_5.length l0_5) (hc0_5 : l0_5.length ≤ c0_5) (hr0_6 : Kd.C (Kd.int .i64) w A0_6 l0_6.length l0_6) (hc0_6 : l0_6.length ≤ c0_6) (h : spec_JudgeTimes.f k l0_0 l0_1 l0_2 a0_3 l0_4 l0_5 l0_6 a0_7 = some r) :
    Calls Tryz.prog 11 #[.agg #[.slice A0_0 l0_0.length c0_0, .slice A0_1 l0_1.length c0_1, .slice A0_2 l0_2.length c0_2, .int .i64 a0_3, .slice A0_4 l0_4.length c0_4, .slice A0_5 l0_5.length c0_5, .slice A0_6 l0_6.length c0_6, .int .i64 a0_7]] w fun e w' => e = .returned (.bool r) ∧ Below w.heap.size w w' := by
  have hu43 := Tryz.underlying43
  have hu73 := Tryz.underlying73
  have HR0_0 := aM hr0_0
  have HC0_0 := aM hc0_0
  clear hr0_0 hc0_0
  have HR0_1 := aM hr0_1
  have HC0_1 := aM hc0_1
  clear hr0_1 hc0_1
  have HR0_2 := aM hr0_2
  have HC0_2 := aM hc0_2
  clear hr0_2 hc0_2
  have HR0_4 := aM hr0_4
  have HC0_4 := aM hc0_4
  clear hr0_4 hc0_4
  have HR0_5 := aM hr0_5
  have HC0_5 := aM hc0_5
  clear hr0_5 hc0_5
  have HR0_6 := aM hr0_6
  have HC0_6 := aM hc0_6
  clear hr0_6 hc0_6
  have HB := aM (Below.refl w.heap.size w)
  have H := h
  unfold spec_JudgeTimes.f at H
  clear h
  replace H := bE H; obtain ⟨t102, A2, H⟩ := H
  go_enter Tryz.func11, Tryz.ntmps11
  go_wp2_with (first | (refine boxE 1 #[.slice A0_0 l0_0.length c0_0, .slice A0_1 l0_1.length c0_1, .slice A0_2 l0_2.length c0_2, .int .i64 a0_3, .slice A0_4 l0_4.length c0_4, .slice A0_5 l0_5.length c0_5, .slice A0_6 l0_6.length c0_6, .int .i64 a0_7] 43 ?_; intro gbz1 hg wz1 hbox hb; have BKz1 := aM (hbox); have GWz1 := aG hg HB; have GEz1 := aG hg HB; replace HB := aS HB hb; clear hb hbox hg; obtain ⟨hczz1, hczz2, hczz3, hczz4, hczz5, hczz6, hczz7, hczz8, hfzz1, hfzz2, hfzz3, hfzz4, hfzz5, hfzz6, hfzz7, hfzz8⟩ := cZ8 BKz1.out; refine Stop.out ?_))
  refine ⟨?_⟩
  by_cases c3 : t102 = true
  case neg =>
    replace c3 := Bool.eq_false_iff.mpr c3
    subst c3
    rw [if_neg nft] at H
    obtain rfl := sI H
    go_wp2_with (first | (refine goesM 42 8 Tryz.func42 #[.agg #[.slice A0_0 l0_0.length c0_0, .slice A0_1 l0_1.length c0_1, .slice A0_2 l0_2.length c0_2, .int .i64 a0_3, .slice A0_4 l0_4.length c0_4, .slice A0_5 l0_5.length c0_5, .slice A0_6 l0_6.length c0_6, .int .i64 a0_7]] ?_; refine (spec_MachineOk.calls _ _ _ _ _ _ _ _ _ _ _ _ _ _ _ _ _ _ _ _ _ _ _ (cC HR0_0.out HB.out) HC0_0.out (cC HR0_1.out HB.out) HC0_1.out (cC HR0_2.out HB.out) HC0_2.out (cC HR0_4.out HB.out) HC0_4.out (cC HR0_5.out HB.out) HC0_5.out (cC HR0_6.out HB.out) HC0_6.out A2.out).mono ?_; rintro e wz2 ⟨rfl, hb⟩; refine ⟨_, rfl, ?_⟩; replace BKz1 := aB BKz1 hb; replace HB := aS HB hb; clear hb))
    go_ret
    exact ⟨rE, (hX HB.out)⟩
  subst c3
  rw [if_pos rfl] at H
  have H' := aM H
  clear H
  go_wp2_with (first | (refine goesM 42 8 Tryz.func42 #[.agg #[.slice A0_0 l0_0.length c0_0, .slice A0_1 l0_1.length c0_1, .slice A0_2 l0_2.length c0_2, .int .i64 a0_3, .slice A0_4 l0_4.length c0_4, .slice A0_5 l0_5.length c0_5, .slice A0_6 l0_6.length c0_6, .int .i64 a0_7]] ?_; refine (spec_MachineOk.calls _ _ _ _ _ _ _ _ _ _ _ _ _ _ _ _ _ _ _ _ _ _ _ (cC HR0_0.out HB.out) HC0_0.out (cC HR0_1.out HB.out) HC0_1.out (cC HR0_2.out HB.out) HC0_2.out (cC HR0_4.out HB.out) HC0_4.out (cC HR0_5.out HB.out) HC0_5.out (cC HR0_6.out HB.out) HC0_6.out A2.out).mono ?_; rintro e wz2 ⟨rfl, hb⟩; refine ⟨_, rfl, ?_⟩; replace BKz1 := aB BKz1 hb; replace HB := aS HB hb; clear hb))
  go_loopg [3] k (fun kq v3 w' => ∃ (x3_1 : Int), v3 = .int .i64 x3_1 ∧ Aside0 (spec_JudgeTimes.l0 kq x3_1 l0_0 l0_1 l0_2 a0_3 l0_4 l0_5 l0_6 a0_7 = some r) ∧ Aside0 (kq ≤ k) ∧ Aside0 (w'.heap[gbz1]? = some (.cells #[(.slice A0_0 l0_0.length c0_0), (.slice A0_1 l0_1.length c0_1), (.slice A0_2 l0_2.length c0_2), .int .i64 a0_3, (.slice A0_4 l0_4.length c0_4), (.slice A0_5 l0_5.length c0_5), (.slice A0_6 l0_6.length c0_6), .int .i64 a0_7] 43 (0, 0))) ∧ Aside0 (Below w.heap.size w w'))
  case atStart => exact ⟨(0), rS, H', ⟨Nat.le_refl _⟩, ⟨(bX BKz1.out)⟩, ⟨(hX HB.out)⟩⟩
  case round =>
    clear H'
    try clear p2
    try clear c3
    try clear hczz1 hczz2 hczz3 hczz4 hczz5 hczz6 hczz7 hczz8 hfzz1 hfzz2 hfzz3 hfzz4 hfzz5 hfzz6 hfzz7 hfzz8
    obtain ⟨x3_1, rfl, HA, HKy1, BKz1, HB⟩ := hrel
    cases gk with
    | zero => exact absurd HA.out (by simp [spec_JudgeTimes.l0])
    | succ k1 =>
      have H := HA.out
      clear HA
      simp only [spec_JudgeTimes.l0] at H
      by_cases c7 : x3_1 < (l0_4.length : Int)
      case neg =>
        rw [if_neg c7] at H
        have c7b0 := decide_eq_false c7
        clear c7
        obtain rfl := sI H
        obtain ⟨hczx1, hczx2, hczx3, hczx4, hczx5, hczx6, hczx7, hczx8, hfzx1, hfzx2, hfzx3, hfzx4, hfzx5, hfzx6, hfzx7, hfzx8⟩ := cZ8 BKz1.out
        go_wp2
        go_ret
        exact ⟨rE, (hX HB.out)⟩
      rw [if_pos c7] at H
      have c7b0 := decide_eq_true c7
      clear c7
      replace H := ifP H; obtain ⟨c8, H⟩ := H
      have c8b0 := decide_eq_true c8
      clear c8
      have HC9 := aM H
      clear H
      obtain ⟨hczx1, hczx2, hczx3, hczx4, hczx5, hczx6, hczx7, hczx8, hfzx1, hfzx2, hfzx3, hfzx4, hfzx5, hfzx6, hfzx7, hfzx8⟩ := cZ8 BKz1.out
      have px1 : 0 ≤ (x3_1 : Int) := odA
      have qx1 : x3_1 < (l0_4.length : Int) := odA
      obtain ⟨adx1, Ax1, cx1, ex1, hxx1, hxx2, hxx3, hxx4, hxx5, hxx6, hxx7, hxx8, hxx9, hlx1, hix1⟩ := at_T73b HR0_4.out HB.out x3_1 px1 qx1
      cases ex1
      have HRx1 := aM hix1
      have HCx1 := aM hlx1
      clear hix1 hlx1
      replace px1 := eq_true px1
      replace qx1 := eq_true qx1
      go_upto_region 7 with (first | ((with_reducible refine gate_dst (N := 4) rfl ?_); refine boxE 4 #[.int .i64 0, .int .i64 0, .int .i64 0, .int .i64 0, .int .i64 0, .int .i64 0, .int .i64 0, .int .i64 0, .slice none 0 0] 73 ?_; intro gbx1 hg wx1 hbox hb; have BKx1 := aM (hbox); have GWx1 := aG hg HB; have GEx1 := aG hg HB; have NBx1 := aL hg BKz1; have NBx2 := aR hg BKz1; replace BKz1 := aB BKz1 hb; replace HB := aS HB hb; clear hb hbox hg; have hnbx1 := NBx2.out; have hncx1 := NBx1.out; obtain ⟨hczx9, hczx10, hczx11, hczx12, hczx13, hczx14, hczx15, hczx16, hczx17, hfzx9, hfzx10, hfzx11, hfzx12, hfzx13, hfzx14, hfzx15, hfzx16, hfzx17⟩ := cZ9 BKx1.out))
      (try simp only [Act.put, List.setIfInBounds_toArray, List.set_cons_zero, List.set_cons_succ])
      go_cut [34] (fun vx1 wc => ∃ (kq : Nat) (x34_8 : Bool), vx1 = .bool x34_8 ∧ Aside0 (spec_JudgeTimes.j1 kq x3_1 x34_8 l0_0 l0_1 l0_2 a0_3 l0_4 l0_5 l0_6 a0_7 ((rd_T73 l0_4 x3_1).f0) ((rd_T73 l0_4 x3_1).f1.f0) ((rd_T73 l0_4 x3_1).f1.f1) ((rd_T73 l0_4 x3_1).f1.f2) ((rd_T73 l0_4 x3_1).f2) ((rd_T73 l0_4 x3_1).f3) ((rd_T73 l0_4 x3_1).f4) ((rd_T73 l0_4 x3_1).f5.f0) ((rd_T73 l0_4 x3_1).f5.f1) = some r) ∧ Aside0 (kq ≤ k1) ∧ Aside0 (wc.heap[gbz1]? = some (.cells #[(.slice A0_0 l0_0.length c0_0), (.slice A0_1 l0_1.length c0_1), (.slice A0_2 l0_2.length c0_2), .int .i64 a0_3, (.slice (some adx1) l0_4.length c0_4), (.slice A0_5 l0_5.length c0_5), (.slice A0_6 l0_6.length c0_6), .int .i64 a0_7] 43 (0, 0))) ∧ Aside0 (wc.heap[gbx1]? = some (.cells #[.int .i64 ((rd_T73 l0_4 x3_1).f0), .int .i64 ((rd_T73 l0_4 x3_1).f1.f0), .int .i64 ((rd_T73 l0_4 x3_1).f1.f1), .int .i64 ((rd_T73 l0_4 x3_1).f1.f2), .int .i64 ((rd_T73 l0_4 x3_1).f2), .int .i64 ((rd_T73 l0_4 x3_1).f3), .int .i64 ((rd_T73 l0_4 x3_1).f4), .int .i64 ((rd_T73 l0_4 x3_1).f5.f0), (.slice Ax1 ((rd_T73 l0_4 x3_1).f5.f1).length cx1)] 73 (0, 0))) ∧ Aside0 (Below w.heap.size w wc))
      case first =>
        have H := HC9.out
        clear HC9
        by_cases c14 : ((rd_T73 l0_4 x3_1).f4) ≥ 0
        case neg =>
          rw [if_neg c14] at H
          have c14b0 := decide_eq_false c14
          clear c14
          (first | rw [c14b0] | (simp only [i64_w, i32_w]; rw [c14b0]) | skip)
          have H' := aM H
          clear H
          have hnbw1 := NBx2.out
          have hncw1 := NBx1.out
          obtain ⟨hczw1, hczw2, hczw3, hczw4, hczw5, hczw6, hczw7, hczw8, hczw9, hfzw1, hfzw2, hfzw3, hfzw4, hfzw5, hfzw6, hfzw7, hfzw8, hfzw9⟩ := cZ9 BKx1.out
          go_wp2
          go_meet
          case rel => exact ⟨_, (false), rS, H', ⟨by have := HKy1.out; first | omega | exact Nat.le_refl _⟩, ⟨(bF BKz1.out)⟩, ⟨(bP BKx1.out)⟩, ⟨(hX HB.out)⟩⟩
        rw [if_pos c14] at H
        have c14b0 := decide_eq_true c14
        clear c14
        (first | rw [c14b0] | (simp only [i64_w, i32_w]; rw [c14b0]) | skip)
        replace H := bE H; obtain ⟨t105, A15, H⟩ := H
        have H' := aM H
        clear H
        have hnbw1 := NBx2.out
        have hncw1 := NBx1.out
        obtain ⟨hczw1, hczw2, hczw3, hczw4, hczw5, hczw6, hczw7, hczw8, hczw9, hfzw1, hfzw2, hfzw3, hfzw4, hfzw5, hfzw6, hfzw7, hfzw8, hfzw9⟩ := cZ9 BKx1.out
        go_wp2_with (first | (go_at_call 43; (with_reducible refine (spec_l1In.calls _ _ _ _ _ A15.out).mono ?_); rintro e w' ⟨rfl, ⟨nd, rfl⟩⟩))
        go_meet
        case rel => exact ⟨_, (!t105), rS, H', ⟨by have := HKy1.out; first | omega | exact Nat.le_refl _⟩, ⟨(bF BKz1.out)⟩, ⟨(bP BKx1.out)⟩, ⟨(hX HB.out)⟩⟩
      case rest =>
        clear HC9
        try clear p1
        try clear q1
        try clear hx1
        try clear p2
        try clear c3
        try clear c7
        try clear c7b0
        try clear c8
        try clear c8b0
        try clear p10
        try clear q10
        try clear hx10
        try clear hczx1 hczx2 hczx3 hczx4 hczx5 hczx6 hczx7 hczx8 hfzx1 hfzx2 hfzx3 hfzx4 hfzx5 hfzx6 hfzx7 hfzx8
        try clear hczx9 hczx10 hczx11 hczx12 hczx13 hczx14 hczx15 hczx16 hczx17 hfzx9 hfzx10 hfzx11 hfzx12 hfzx13 hfzx14 hfzx15 hfzx16 hfzx17
        try clear hczz1 hczz2 hczz3 hczz4 hczz5 hczz6 hczz7 hczz8 hfzz1 hfzz2 hfzz3 hfzz4 hfzz5 hfzz6 hfzz7 hfzz8
        try clear hxx1
        try clear hxx2
        try clear hxx3
        try clear hxx4
        try clear hxx5
        try clear hxx6
        try clear hxx7
        try clear hxx8
        try clear hxx9
        try clear px1
        try clear qx1
        obtain ⟨kq, x34_8, rfl, HA, HJw1, BKz1, BKx1, HB⟩ := hcut
        cases kq with
        | zero => exact absurd HA.out (by simp [spec_JudgeTimes.j1])
        | succ kj8 =>
          have H := HA.out
          clear HA
          simp only [spec_JudgeTimes.j1] at H
          by_cases c20 : x34_8 = true
          · subst c20
            rw [if_pos rfl] at H
            obtain rfl := sI H
            go_wp2
            go_ret
            exact ⟨rE, (hX HB.out)⟩
          replace c20 := Bool.eq_false_iff.mpr c20
          subst c20
          rw [if_neg nft] at H
          have H' := aM H
          clear H
          go_wp2
          go_loopg [5] kj8 (fun kq v5 w' => ∃ (x5_3 : Int), v5 = .int .i64 x5_3 ∧ Aside0 (spec_JudgeTimes.l1 kq x3_1 x5_3 l0_0 l0_1 l0_2 a0_3 l0_4 l0_5 l0_6 a0_7 ((rd_T73 l0_4 x3_1).f0) ((rd_T73 l0_4 x3_1).f1.f0) ((rd_T73 l0_4 x3_1).f1.f1) ((rd_T73 l0_4 x3_1).f1.f2) ((rd_T73 l0_4 x3_1).f2) ((rd_T73 l0_4 x3_1).f3) ((rd_T73 l0_4 x3_1).f4) ((rd_T73 l0_4 x3_1).f5.f0) ((rd_T73 l0_4 x3_1).f5.f1) = some r) ∧ Aside0 (kq ≤ kj8) ∧ Aside0 (w'.heap[gbz1]? = some (.cells #[(.slice A0_0 l0_0.length c0_0), (.slice A0_1 l0_1.length c0_1), (.slice A0_2 l0_2.length c0_2), .int .i64 a0_3, (.slice (some adx1) l0_4.length c0_4), (.slice A0_5 l0_5.length c0_5), (.slice A0_6 l0_6.length c0_6), .int .i64 a0_7] 43 (0, 0))) ∧ Aside0 (w'.heap[gbx1]? = some (.cells #[.int .i64 ((rd_T73 l0_4 x3_1).f0), .int .i64 ((rd_T73 l0_4 x3_1).f1.f0), .int .i64 ((rd_T73 l0_4 x3_1).f1.f1), .int .i64 ((rd_T73 l0_4 x3_1).f1.f2), .int .i64 ((rd_T73 l0_4 x3_1).f2), .int .i64 ((rd_T73 l0_4 x3_1).f3), .int .i64 ((rd_T73 l0_4 x3_1).f4), .int .i64 ((rd_T73 l0_4 x3_1).f5.f0), (.slice Ax1 ((rd_T73 l0_4 x3_1).f5.f1).length cx1)] 73 (0, 0))) ∧ Aside0 (Below w.heap.size w w'))
          case atStart => exact ⟨(0), rS, H', ⟨Nat.le_refl _⟩, ⟨(bX BKz1.out)⟩, ⟨(bX BKx1.out)⟩, ⟨(hX HB.out)⟩⟩
          case round =>
            clear H'
            try clear p1
            try clear q1
            try clear hx1
            try clear p2
            try clear c3
            try clear c7
            try clear c7b0
            try clear c8
            try clear c8b0
            try clear p10
            try clear q10
            try clear hx10
            try clear c20
            try clear hczx1 hczx2 hczx3 hczx4 hczx5 hczx6 hczx7 hczx8 hfzx1 hfzx2 hfzx3 hfzx4 hfzx5 hfzx6 hfzx7 hfzx8
            try clear hczx9 hczx10 hczx11 hczx12 hczx13 hczx14 hczx15 hczx16 hczx17 hfzx9 hfzx10 hfzx11 hfzx12 hfzx13 hfzx14 hfzx15 hfzx16 hfzx17
            try clear hczz1 hczz2 hczz3 hczz4 hczz5 hczz6 hczz7 hczz8 hfzz1 hfzz2 hfzz3 hfzz4 hfzz5 hfzz6 hfzz7 hfzz8
            try clear hxx1
            try clear hxx2
            try clear hxx3
            try clear hxx4
            try clear hxx5
            try clear hxx6
            try clear hxx7
            try clear hxx8
            try clear hxx9
            try clear px1
            try clear qx1
            obtain ⟨x5_3, rfl, HA, HKu1, BKz1, BKx1, HB⟩ := hrel
            cases gk with
            | zero => exact absurd HA.out (by simp [spec_JudgeTimes.l1])
            | succ k3 =>
              have H := HA.out
              clear HA
              simp only [spec_JudgeTimes.l1] at H
              by_cases c21 : x5_3 < x3_1
              case neg =>
                rw [if_neg c21] at H
                have c21b0 := decide_eq_false c21
                clear c21
                have H' := aM H
                clear H
                go_wp2
                go_roundg k3
                case measure => have := HKy1.out; have := HJw1.out; have := HKu1.out; omega
                case rel => exact ⟨(wrap64 (x3_1 + 1)), rS, H', ⟨by have := HKy1.out; have := HJw1.out; have := HKu1.out; omega⟩, ⟨(bX BKz1.out)⟩, ⟨(hX HB.out)⟩⟩
              rw [if_pos c21] at H
              have c21b0 := decide_eq_true c21
              clear c21
              replace H := ifP H; obtain ⟨c22, H⟩ := H
              have c22b0 := decide_eq_true c22
              clear c22
              replace H := ifP H; obtain ⟨c23, H⟩ := H
              have c23b0 := decide_eq_true c23
              clear c23
              have hnbt1 := NBx1.out
              have hnct1 := NBx2.out
              obtain ⟨hczt1, hczt2, hczt3, hczt4, hczt5, hczt6, hczt7, hczt8, hfzt1, hfzt2, hfzt3, hfzt4, hfzt5, hfzt6, hfzt7, hfzt8⟩ := cZ8 BKz1.out
              have pt1 : 0 ≤ (x5_3 : Int) := odA
              have qt1 : x5_3 < (l0_4.length : Int) := odA
              obtain ⟨adt1, At1, ct1, et1, hxt1, hxt2, hxt3, hxt4, hxt5, hxt6, hxt7, hxt8, hxt9, hlt1, hit1⟩ := at_T73b HR0_4.out HB.out x5_3 pt1 qt1
              obtain rfl : adx1 = adt1 := (by injection et1)
              have HRt1 := aM hit1
              have HCt1 := aM hlt1
              clear hit1 hlt1
              replace pt1 := eq_true pt1
              replace qt1 := eq_true qt1
              go_wp2_with (first | (refine boxE 6 #[.int .i64 0, .int .i64 0, .int .i64 0, .int .i64 0, .int .i64 0, .int .i64 0, .int .i64 0, .int .i64 0, .slice none 0 0] 73 ?_; intro gbt1 hg wt1 hbox hb; have BKt1 := aM (hbox); have GWt1 := aG hg HB; have GEt1 := aG hg HB; have NBt1 := aL hg BKz1; have NBt2 := aR hg BKz1; have NBt3 := aL hg BKx1; have NBt4 := aR hg BKx1; replace BKz1 := aB BKz1 hb; replace BKx1 := aB BKx1 hb; replace HB := aS HB hb; clear hb hbox hg; have hnbt2 := NBt2.out; have hnct2 := NBt1.out; have hnbt3 := NBt4.out; have hnct3 := NBt3.out; obtain ⟨hczt9, hczt10, hczt11, hczt12, hczt13, hczt14, hczt15, hczt16, hczt17, hfzt9, hfzt10, hfzt11, hfzt12, hfzt13, hfzt14, hfzt15, hfzt16, hfzt17⟩ := cZ9 BKt1.out; obtain ⟨hczt18, hczt19, hczt20, hczt21, hczt22, hczt23, hczt24, hczt25, hczt26, hfzt18, hfzt19, hfzt20, hfzt21, hfzt22, hfzt23, hfzt24, hfzt25, hfzt26⟩ := cZ9 BKx1.out; refine Stop.out ?_))
              refine ⟨?_⟩
              by_cases c24 : ((rd_T73 l0_4 x5_3).f0) = ((rd_T73 l0_4 x3_1).f0)
              case neg =>
                rw [if_neg c24] at H
                obtain ⟨c24b0, c24b1⟩ := eqF c24
                have H' := aM H
                clear H
                go_wp2
                go_roundg k3
                case measure => have := HKy1.out; have := HJw1.out; have := HKu1.out; omega
                case rel => exact ⟨(wrap64 (x5_3 + 1)), rS, H', ⟨by have := HKy1.out; have := HJw1.out; have := HKu1.out; omega⟩, ⟨(bF BKz1.out)⟩, ⟨(bF BKx1.out)⟩, ⟨(hX HB.out)⟩⟩
              rw [if_pos c24] at H
              obtain ⟨c24b0, c24b1⟩ := eqT c24
              clear c24
              by_cases c25 : ((rd_T73 l0_4 x5_3).f4) < 0
              · rw [if_pos c25] at H
                have c25b0 := decide_eq_true c25
                clear c25
                obtain rfl := sI H
                go_wp2
                go_ret
                exact ⟨rE, (hX HB.out)⟩
              rw [if_neg c25] at H
              have c25b0 := decide_eq_false c25
              clear c25
              by_cases c33 : ((rd_T73 l0_4 x5_3).f4) ≥ ((rd_T73 l0_4 x3_1).f2)
              · rw [if_pos c33] at H
                have c33b0 := decide_eq_true c33
                clear c33
                obtain rfl := sI H
                go_wp2
                go_ret
                exact ⟨rE, (hX HB.out)⟩
              rw [if_neg c33] at H
              have c33b0 := decide_eq_false c33
              clear c33
              have H' := aM H
              clear H
              go_wp2
              go_roundg k3
              case measure => have := HKy1.out; have := HJw1.out; have := HKu1.out; omega
              case rel => exact ⟨(wrap64 (x5_3 + 1)), rS, H', ⟨by have := HKy1.out; have := HJw1.out; have := HKu1.out; omega⟩, ⟨(bF BKz1.out)⟩, ⟨(bF BKx1.out)⟩, ⟨(hX HB.out)⟩⟩
def laws_toIntS.l0 : Nat → List Int → List Int → Int → Option (List Int)
  | 0, _, _, _ => none
  | k + 1, x0, x3, x4 => if x4 < (x0.length : Int) then (if 0 ≤ x4 then (if x4 < (x3.length : Int) then (laws_toIntS.l0 k x0 (x3.set (x4 : Int).toNat (rd x0 x4)) (wrap64 (x4 + 1))) else (none)) else (none)) else (some x3)
def laws_toIntS.f (k : Nat) (l0 : List Int) : Option (List Int) := if 0 ≤ (l0.length : Int) then (if ((l0.length : Int) : Int).toNat ≤ 35184372088832 then (laws_toIntS.l0 k l0 (List.replicate ((l0.length : Int) : Int).toNat 0) 0) else (none)) else (none)
set_option maxHeartbeats 8000000 in
set_option maxRecDepth 100000 in
theorem laws_toIntS.calls (k : Nat) (A0 : Option Addr) (c0 : Nat) (l0 : List Int) (r : List Int) (w : World) (hr0 : Kd.C (Kd.int .i64) w A0 l0.length l0) (hc0 : l0.length ≤ c0) (h : laws_toIntS.f k l0 = some r) :
    Calls Tryz.prog 47 #[.slice A0 l0.length c0] w fun e w' => ∃ v0_ : Value, e = .returned (v0_) ∧ Kd.R (Kd.int .i64) 3 w' w.heap.size (fun _ => True) v0_ r ∧ Below w.heap.size w w' := by
  have HR0 := aM hr0
  have HC0 := aM hc0
  clear hr0 hc0
  have HB := aM (Below.refl w.heap.size w)
  have H := h
  unfold laws_toIntS.f at H
  clear h
  replace H := ifP H; obtain ⟨c2, H⟩ := H
  have c2b0 := eq_true c2
  have c2b1 := decide_eq_true c2
  clear c2
  replace H := ifP H; obtain ⟨c3, H⟩ := H
  have c3b0 := eq_true c3
  have c3b1 := decide_eq_true c3
  clear c3
  obtain ⟨y101, hy101⟩ : ∃ y_ : List Int, y_ = (List.replicate ((l0.length : Int) : Int).toNat 0) := ⟨_, rfl⟩
  replace H : (laws_toIntS.l0 k l0 y101 0) = some r := yH H hy101
  have Ny101 := aM hy101
  clear hy101
  have H' := aM H
  clear H
  go_enter Tryz.func47, Tryz.ntmps47
  go_wp2_with (first | ((with_reducible refine gate_dst (N := 7) rfl ?_); refine Kd.R_make (Kd.int .i64) _ 3 rfl (N := 7) rfl 28 _ _ rfl (l0.length : Int) rfl rfl Tryz.underlying28 (.int .i64 0) 8 info3 rfl (by decide) (by omega) 0 (ok := fun _ => True) (okp := fun _ => True) rfl (fun _ hk => hk) trivial (odA) (Nat.le_trans (Nat.mul_le_mul_right _ (odA : (l0.length : Int).toNat ≤ 35184372088832)) (by omega)) (Below.refl _ _) (Nat.le_refl _) ?_; intro vz1 wz1 hoz1 hb hg_ hnew_; clear hg_ hnew_; (first | rw [← Ny101.out] at hoz1 | (simp only [Int.reduceToNat] at hoz1; rw [← Ny101.out] at hoz1)); have HOz1 := aM (Kd.R_lower hoz1 (below_size (hX HB.out))); replace HB := aS HB hb; clear hb hoz1))
  go_loopg [4] k (fun kq v4 w' => ∃ (x3_1 : List Int) (x4_1 : Int), v4 = .int .i64 x4_1 ∧ Aside0 (laws_toIntS.l0 kq l0 x3_1 x4_1 = some r) ∧ Aside0 (kq ≤ k) ∧ Aside0 (Kd.R (Kd.int .i64) 3 w' w.heap.size (fun _ => True) vz1 x3_1) ∧ Aside0 (Below w.heap.size w w'))
  case atStart => exact ⟨(y101), (0), rS, H', ⟨Nat.le_refl _⟩, ⟨(rX HOz1.out)⟩, ⟨(hX HB.out)⟩⟩
  case round =>
    clear H'
    try clear c2
    try clear c2b0
    try clear c2b1
    try clear p2
    try clear c3
    try clear c3b0
    try clear c3b1
    obtain ⟨x3_1, x4_1, rfl, HA, HKy1, HO_y1, HB⟩ := hrel
    cases gk with
    | zero => exact absurd HA.out (by simp [laws_toIntS.l0])
    | succ k1 =>
      have H := HA.out
      clear HA
      simp only [laws_toIntS.l0] at H
      by_cases c6 : x4_1 < (l0.length : Int)
      case neg =>
        rw [if_neg c6] at H
        have c6b0 := decide_eq_false c6
        clear c6
        obtain rfl := sI H
        go_wp2
        go_ret
        exact ⟨_, rE, (rX HO_y1.out), (hX HB.out)⟩
      rw [if_pos c6] at H
      have c6b0 := decide_eq_true c6
      clear c6
      replace H := ifP H; obtain ⟨c7, H⟩ := H
      have c7b0 := decide_eq_true c7
      clear c7
      replace H := ifP H; obtain ⟨c8, H⟩ := H
      have c8b0 := decide_eq_true c8
      clear c8
      obtain ⟨y105, hy105⟩ : ∃ y_ : List Int, y_ = (x3_1.set (x4_1 : Int).toNat (rd l0 x4_1)) := ⟨_, rfl⟩
      replace H : (laws_toIntS.l0 k1 l0 y105 (wrap64 (x4_1 + 1))) = some r := yH H hy105
      have Ny105 := aM hy105
      clear hy105
      have H' := aM H
      clear H
      have px1 : 0 ≤ (x4_1 : Int) := odA
      have qx1 : x4_1 < (l0.length : Int) := odA
      obtain ⟨adx1, ex1, hxx1⟩ := at_ib HR0.out HB.out x4_1 px1 qx1
      cases ex1
      replace px1 := eq_true px1
      replace qx1 := eq_true qx1
      have px2 : 0 ≤ (x4_1 : Int) := odA
      have qx2 : (x4_1 : Int) < ((x3_1.length : Int) : Int) := odA
      obtain ⟨gox1, cox1, eox1, gbx1, glx1, clx1, HGx1⟩ := Kd.R_form HO_y1.out (by omega)
      (first | cases eox1 | (injection eox1 with ea_ en_ ec_; (first | subst ea_ | (injection ea_ with ea_; subst ea_)); subst ec_; clear en_))
      have GBx1 := aM gbx1
      have GGx1 := aM HGx1
      clear gbx1 glx1 HGx1
      obtain ⟨hxx2, hfx1⟩ := Kd.R_celln 0 HO_y1.out (x4_1 : Int) px2 qx2
      replace px2 := eq_true px2
      replace qx2 := eq_true qx2
      have HPx1 := Kd.R_putg HO_y1.out (x4_1 : Int) (rd l0 x4_1)
      go_wp2_with (first | ((with_reducible refine gate_store (t := 3) (p := 20) rfl ?_); refine store_event (t := 3) (p := 20) (v := ?vo_wx1) (w1 := (wr.setCell ⟨gox1, (x4_1 : Int).toNat, none⟩ (.int .i64 (rd l0 x4_1)))) ?hg ?ho ?hn ?hr ?_; (case ho => rfl); (case hg => rfl); (case hn => rfl); (case hr => first | (go_simp; done) | (go_simp; rfl)); intro wx1 hw; have hg : wr.grownBy wx1 (some gox1) := (by rw [hw]; exact HPx1.2); have hp_ : Kd.R (Kd.int .i64) 3 wx1 w.heap.size (fun _ => True) (.slice (some ⟨gox1, 0, none⟩) x3_1.length cox1) y105 := (by rw [hw, Ny105.out]; exact HPx1.1); clear HPx1; replace HO_y1 := aM (hp_); replace HB := aM ((by rw [hw]; exact below_set (HB.out) GBx1.out : Below w.heap.size w wx1)); clear hg hw hp_))
      go_roundg k1
      case measure => have := HKy1.out; omega
      case rel => exact ⟨(y105), (wrap64 (x4_1 + 1)), rS, H', ⟨by have := HKy1.out; omega⟩, ⟨(rX HO_y1.out)⟩, ⟨(hX HB.out)⟩⟩
def laws_toRows.f (k : Nat) (l0_0 : List Int) (a0_1 : Int) : Option (List Int × Int) := (laws_toIntS.f k l0_0).bind fun t104 => (some (t104, a0_1))
set_option maxHeartbeats 8000000 in
set_option maxRecDepth 100000 in
theorem laws_toRows.calls (k : Nat) (A0_0 : Option Addr) (c0_0 : Nat) (l0_0 : List Int) (a0_1 : Int) (r1 : List Int) (r2 : Int) (w : World) (hr0_0 : Kd.C (Kd.int .i64) w A0_0 l0_0.length l0_0) (hc0_0 : l0_0.length ≤ c0_0) (h : laws_toRows.f k l0_0 a0_1 = some (r1, r2)) :
    Calls Tryz.prog 20 #[.agg #[.slice A0_0 l0_0.length c0_0, .int .i64 a0_1]] w fun e w' => ∃ v0_ : Value, e = .returned (.agg #[v0_, .int .i64 r2]) ∧ Kd.R (Kd.int .i64) 3 w' w.heap.size (fun _ => True) v0_ r1 ∧ Below w.heap.size w w' := by
  have hu30 := Tryz.underlying30
  have hu41 := Tryz.underlying41
  have HR0_0 := aM hr0_0
  have HC0_0 := aM hc0_0
  clear hr0_0 hc0_0
  have HB := aM (Below.refl w.heap.size w)
  have H := h
  unfold laws_toRows.f at H
  clear h
  replace H := bE H; obtain ⟨t104, A2, H⟩ := H
  simp only [Option.some.injEq, Prod.mk.injEq] at H
  obtain ⟨rfl, rfl⟩ := H
  go_enter Tryz.func20, Tryz.ntmps20
  go_wp2_with (first | (refine boxE 1 #[.slice A0_0 l0_0.length c0_0, .int .i64 a0_1] 30 ?_; intro gbz1 hg wz1 hbox hb; have BKz1 := aM (hbox); have GWz1 := aG hg HB; have GEz1 := aG hg HB; replace HB := aS HB hb; clear hb hbox hg) | (refine boxE 2 #[.slice none 0 0, .int .i64 0] 41 ?_; intro gbz2 hg wz2 hbox hb; have BKz2 := aM (hbox); have GWz2 := aG hg HB; have GEz2 := aG hg HB; have NBz1 := aL hg BKz1; have NBz2 := aR hg BKz1; replace BKz1 := aB BKz1 hb; replace HB := aS HB hb; clear hb hbox hg) | (refine boxE 3 #[.slice none 0 0, .int .i64 0] 41 ?_; intro gbz3 hg wz3 hbox hb; have BKz3 := aM (hbox); have GWz3 := aG hg HB; have GEz3 := aG hg HB; have NBz3 := aL hg BKz1; have NBz4 := aR hg BKz1; have NBz5 := aL hg BKz2; have NBz6 := aR hg BKz2; replace BKz1 := aB BKz1 hb; replace BKz2 := aB BKz2 hb; replace HB := aS HB hb; clear hb hbox hg; have hnbz1 := NBz1.out; have hncz1 := NBz2.out; have hnbz2 := NBz3.out; have hncz2 := NBz4.out; obtain ⟨hczz1, hczz2, hfzz1, hfzz2⟩ := cZ2 BKz1.out) | (refine goesM 47 6 Tryz.func47 #[.slice A0_0 l0_0.length c0_0] ?_; refine (laws_toIntS.calls _ _ _ _ _ _ (cC HR0_0.out HB.out) HC0_0.out A2.out).mono ?_; rintro e wz4 ⟨vz1, rfl, hoz1, hb⟩; refine ⟨_, rfl, ?_⟩; have HOz1 := aM (Kd.R_lower hoz1 (below_size (hX HB.out))); replace BKz1 := aB BKz1 hb; replace BKz2 := aB BKz2 hb; replace BKz3 := aB BKz3 hb; replace HB := aS HB hb; clear hb hoz1; obtain ⟨Aoz1, coz1, eoz1⟩ := Kd.R_slice HOz1.out; subst eoz1; have hnbz3 := NBz6.out; have hncz3 := NBz5.out; obtain ⟨hczz3, hczz4, hfzz3, hfzz4⟩ := cZ2 BKz3.out; obtain ⟨hczz5, hczz6, hfzz5, hfzz6⟩ := cZ2 BKz1.out; obtain ⟨hczz7, hczz8, hfzz7, hfzz8⟩ := cZ2 BKz2.out))
  refine bodyPost_ret (results_cell_row rfl _ _ gbz2 41 #[.slice Aoz1 t104.length coz1, .int .i64 a0_1] (0, 0) _ rfl (bP BKz2.out) Tryz.underlying41 rfl (by kernel_rfl)) rfl ?_
  exact ⟨_, rE, (rT (h := by exact Kd.R_mono (Kd.R_far (p := ⟨gbz2, 1, none⟩) (Kd.R_far (p := ⟨gbz2, 0, none⟩) (Kd.R_far (p := ⟨gbz3, 1, none⟩) (Kd.R_far (p := ⟨gbz3, 0, none⟩) (Kd.R_types (Kd.R_types HOz1.out BKz3.out (by decide)) BKz2.out (by decide)) (fun _ hk => hk.1.2) (.slice Aoz1 t104.length coz1)) (fun _ hk => hk.1.2) (.int .i64 a0_1)) (fun _ hk => hk.2) (.slice Aoz1 t104.length coz1)) (fun _ hk => hk.2) (.int .i64 a0_1)) (fun _ hk => trivial))), (hX HB.out)⟩
def laws_toWord.f (a0_0 : Int) (a0_1 : Int) (a0_2 : Int) : Option (Int × Int × Int) := some (a0_0, a0_1, a0_2)
set_option maxHeartbeats 8000000 in
set_option maxRecDepth 100000 in
theorem laws_toWord.calls (a0_0 : Int) (a0_1 : Int) (a0_2 : Int) (r1 : Int) (r2 : Int) (r3 : Int) (w : World) (h : laws_toWord.f a0_0 a0_1 a0_2 = some (r1, r2, r3)) :
    Calls Tryz.prog 164 #[.agg #[.int .i64 a0_0, .int .i64 a0_1, .int .i64 a0_2]] w fun e w' => e = .returned (.agg #[.int .i64 r1, .int .i64 r2, .int .i64 r3]) ∧ Below w.heap.size w w' := by
  have hu176 := Tryz.underlying176
  have hu140 := Tryz.underlying140
  have HB := aM (Below.refl w.heap.size w)
  have H := h
  unfold laws_toWord.f at H
  clear h
  simp only [Option.some.injEq, Prod.mk.injEq] at H
  obtain ⟨rfl, rfl, rfl⟩ := H
  go_enter Tryz.func164, Tryz.ntmps164
  go_wp2_with (first | (refine boxE 1 #[.int .i64 a0_0, .int .i64 a0_1, .int .i64 a0_2] 176 ?_; intro gbz1 hg wz1 hbox hb; have BKz1 := aM (hbox); have GWz1 := aG hg HB; have GEz1 := aG hg HB; replace HB := aS HB hb; clear hb hbox hg) | (refine boxE 2 #[.int .i64 0, .int .i64 0, .int .i64 0] 140 ?_; intro gbz2 hg wz2 hbox hb; have BKz2 := aM (hbox); have GWz2 := aG hg HB; have GEz2 := aG hg HB; have NBz1 := aL hg BKz1; have NBz2 := aR hg BKz1; replace BKz1 := aB BKz1 hb; replace HB := aS HB hb; clear hb hbox hg) | (refine boxE 3 #[.int .i64 0, .int .i64 0, .int .i64 0] 140 ?_; intro gbz3 hg wz3 hbox hb; have BKz3 := aM (hbox); have GWz3 := aG hg HB; have GEz3 := aG hg HB; have NBz3 := aL hg BKz1; have NBz4 := aR hg BKz1; have NBz5 := aL hg BKz2; have NBz6 := aR hg BKz2; replace BKz1 := aB BKz1 hb; replace BKz2 := aB BKz2 hb; replace HB := aS HB hb; clear hb hbox hg; have hnbz1 := NBz1.out; have hncz1 := NBz2.out; have hnbz2 := NBz3.out; have hncz2 := NBz4.out; obtain ⟨hczz1, hczz2, hczz3, hfzz1, hfzz2, hfzz3⟩ := cZ3 BKz1.out; have hnbz3 := NBz6.out; have hncz3 := NBz5.out; obtain ⟨hczz4, hczz5, hczz6, hfzz4, hfzz5, hfzz6⟩ := cZ3 BKz3.out; obtain ⟨hczz7, hczz8, hczz9, hfzz7, hfzz8, hfzz9⟩ := cZ3 BKz2.out))
  refine bodyPost_ret (results_cell_row rfl _ _ gbz2 140 #[.int .i64 a0_0, .int .i64 a0_1, .int .i64 a0_2] (0, 0) _ rfl (bP BKz2.out) Tryz.underlying140 rfl (by kernel_rfl)) rfl ?_
  exact ⟨rE, (hX HB.out)⟩
def laws_toWordS.l0 : Nat → List (S176) → List (S140) → Int → Option ((List (S140)))
  | 0, _, _, _ => none
  | k + 1, x0, x3, x4 => if x4 < (x0.length : Int) then (if 0 ≤ x4 then ((laws_toWord.f ((rd_T176 x0 x4).f0) ((rd_T176 x0 x4).f1) ((rd_T176 x0 x4).f2)).bind fun bt105 => (if x4 < (x3.length : Int) then (laws_toWordS.l0 k x0 (x3.set (x4 : Int).toNat (⟨bt105.1, bt105.2.1, bt105.2.2⟩ : S140)) (wrap64 (x4 + 1))) else (none))) else (none)) else (some x3)
def laws_toWordS.f (k : Nat) (l0 : List (S176)) : Option ((List (S140))) := if 0 ≤ (l0.length : Int) then (if ((l0.length : Int) : Int).toNat ≤ 11728124029610 then (laws_toWordS.l0 k l0 (List.replicate ((l0.length : Int) : Int).toNat z140) 0) else (none)) else (none)
set_option maxHeartbeats 8000000 in
set_option maxRecDepth 100000 in
theorem laws_toWordS.calls (k : Nat) (A0 : Option Addr) (c0 : Nat) (l0 : List (S176)) (r : List (S140)) (w : World) (hr0 : Kd.C k176 w A0 l0.length l0) (hc0 : l0.length ≤ c0) (h : laws_toWordS.f k l0 = some r) :
    Calls Tryz.prog 97 #[.slice A0 l0.length c0] w fun e w' => ∃ v0_ : Value, e = .returned (v0_) ∧ Kd.R k140 140 w' w.heap.size (fun _ => True) v0_ r ∧ Below w.heap.size w w' := by
  have hu176 := Tryz.underlying176
  have hu140 := Tryz.underlying140
  have HR0 := aM hr0
  have HC0 := aM hc0
  clear hr0 hc0
  have HB := aM (Below.refl w.heap.size w)
  have H := h
  unfold laws_toWordS.f at H
  clear h
  replace H := ifP H; obtain ⟨c2, H⟩ := H
  have c2b0 := eq_true c2
  have c2b1 := decide_eq_true c2
  clear c2
  replace H := ifP H; obtain ⟨c3, H⟩ := H
  have c3b0 := eq_true c3
  have c3b1 := decide_eq_true c3
  clear c3
  obtain ⟨y101, hy101⟩ : ∃ y_ : List (S140), y_ = (List.replicate ((l0.length : Int) : Int).toNat z140) := ⟨_, rfl⟩
  replace H : (laws_toWordS.l0 k l0 y101 0) = some r := yH H hy101
  have Ny101 := aM hy101
  clear hy101
  have H' := aM H
  clear H
  go_enter Tryz.func97, Tryz.ntmps97
  go_wp2_with (first | ((with_reducible refine gate_dst (N := 7) rfl ?_); refine Kd.R_make k140 _ 140 rfl (N := 7) rfl 35 _ _ rfl (l0.length : Int) rfl rfl Tryz.underlying35 (.agg #[(.int .i64 0), (.int .i64 0), (.int .i64 0)]) 24 info140 rfl (by decide) (by omega) z140 (ok := fun _ => True) (okp := fun _ => True) (k140_mkM _ _ _ z140 ) (fun _ hk => hk) trivial (odA) (Nat.le_trans (Nat.mul_le_mul_right _ (odA : (l0.length : Int).toNat ≤ 11728124029610)) (by omega)) (Below.refl _ _) (Nat.le_refl _) ?_; intro vz1 wz1 hoz1 hb hg_ hnew_; clear hg_ hnew_; (first | rw [← Ny101.out] at hoz1 | (simp only [Int.reduceToNat] at hoz1; rw [← Ny101.out] at hoz1)); have HOz1 := aM (Kd.R_lower hoz1 (below_size (hX HB.out))); replace HB := aS HB hb; clear hb hoz1))
  go_loopg [4] k (fun kq v4 w' => ∃ (x3_1 : List (S140)) (x4_1 : Int), v4 = .int .i64 x4_1 ∧ Aside0 (laws_toWordS.l0 kq l0 x3_1 x4_1 = some r) ∧ Aside0 (kq ≤ k) ∧ Aside0 (Kd.R k140 140 w' w.heap.size (fun _ => True) vz1 x3_1) ∧ Aside0 (Below w.heap.size w w'))
  case atStart => exact ⟨(y101), (0), rS, H', ⟨Nat.le_refl _⟩, ⟨(rX HOz1.out)⟩, ⟨(hX HB.out)⟩⟩
  case round =>
    clear H'
    try clear c2
    try clear c2b0
    try clear c2b1
    try clear p2
    try clear c3
    try clear c3b0
    try clear c3b1
    obtain ⟨x3_1, x4_1, rfl, HA, HKy1, HO_y1, HB⟩ := hrel
    cases gk with
    | zero => exact absurd HA.out (by simp [laws_toWordS.l0])
    | succ k1 =>
      have H := HA.out
      clear HA
      simp only [laws_toWordS.l0] at H
      by_cases c6 : x4_1 < (l0.length : Int)
      case neg =>
        rw [if_neg c6] at H
        have c6b0 := decide_eq_false c6
        clear c6
        obtain rfl := sI H
        go_wp2
        go_ret
        exact ⟨_, rE, (rX HO_y1.out), (hX HB.out)⟩
      rw [if_pos c6] at H
      have c6b0 := decide_eq_true c6
      clear c6
      replace H := ifP H; obtain ⟨c7, H⟩ := H
      have c7b0 := decide_eq_true c7
      clear c7
      replace H := bE H; obtain ⟨⟨t105, t106, t107⟩, A8, H⟩ := H
      try dsimp only at H
      replace H := ifP H; obtain ⟨c9, H⟩ := H
      have c9b0 := decide_eq_true c9
      clear c9
      obtain ⟨y108, hy108⟩ : ∃ y_ : List (S140), y_ = (x3_1.set (x4_1 : Int).toNat (⟨t105, t106, t107⟩ : S140)) := ⟨_, rfl⟩
      replace H : (laws_toWordS.l0 k1 l0 y108 (wrap64 (x4_1 + 1))) = some r := yH H hy108
      have Ny108 := aM hy108
      clear hy108
      have H' := aM H
      clear H
      have px1 : 0 ≤ (x4_1 : Int) := odA
      have qx1 : x4_1 < (l0.length : Int) := odA
      obtain ⟨adx1, ex1, hxx1, hxx2, hxx3⟩ := at_T176b HR0.out HB.out x4_1 px1 qx1
      cases ex1
      replace px1 := eq_true px1
      replace qx1 := eq_true qx1
      go_wp2_with (first | (refine goesM 164 20 Tryz.func164 #[.agg #[.int .i64 ((rd_T176 l0 x4_1).f0), .int .i64 ((rd_T176 l0 x4_1).f1), .int .i64 ((rd_T176 l0 x4_1).f2)]] ?_; refine (laws_toWord.calls _ _ _ _ _ _ _ A8.out).mono ?_; rintro e wx1 ⟨rfl, hb⟩; refine ⟨_, rfl, ?_⟩; replace HO_y1 := aQ HO_y1 hb; replace HB := aS HB hb; clear hb; have px2 : 0 ≤ (x4_1 : Int) := odA; have qx2 : (x4_1 : Int) < ((x3_1.length : Int) : Int) := odA; obtain ⟨gox1, cox1, eox1, gbx1, glx1, clx1, HGx1⟩ := Kd.R_form HO_y1.out (by omega); (first | cases eox1 | (injection eox1 with ea_ en_ ec_; (first | subst ea_ | (injection ea_ with ea_; subst ea_)); subst ec_; clear en_)); have GBx1 := aM gbx1; have GGx1 := aM HGx1; clear gbx1 glx1 HGx1; obtain ⟨cex1, hclx1, hMx1, hccx1, hfrx1⟩ := Kd.R_elem HO_y1.out z140 (x4_1 : Int) px2 qx2; obtain rfl := k140_openM hMx1; have hxx4 : wx1.cell? ⟨gox1, (x4_1 : Int).toNat * 3, none⟩ = some (.int .i64 ((rd_T140 x3_1 x4_1).f0)) := hccx1 0 _ rfl; have hxx5 : wx1.cell? ⟨gox1, (x4_1 : Int).toNat * 3 + 1, none⟩ = some (.int .i64 ((rd_T140 x3_1 x4_1).f1)) := hccx1 1 _ rfl; have hxx6 : wx1.cell? ⟨gox1, (x4_1 : Int).toNat * 3 + 2, none⟩ = some (.int .i64 ((rd_T140 x3_1 x4_1).f2)) := hccx1 2 _ rfl; have hfx1 : wx1.frozen? ⟨gox1, (x4_1 : Int).toNat * 3, none⟩ = false := hfrx1 0; have hfx2 : wx1.frozen? ⟨gox1, (x4_1 : Int).toNat * 3 + 1, none⟩ = false := hfrx1 1; have hfx3 : wx1.frozen? ⟨gox1, (x4_1 : Int).toNat * 3 + 2, none⟩ = false := hfrx1 2; clear hclx1 hccx1 hfrx1 hMx1; replace px2 := eq_true px2; replace qx2 := eq_true qx2; have HXx1 := aM (show Kd.R k140 140 wx1 w.heap.size (fun _ => True) (.slice (some ⟨gox1, 0, none⟩) x3_1.length cox1) x3_1 from (rX HO_y1.out)); obtain ⟨cex2, hclx2, hMx2, hccx2, hfrx2⟩ := Kd.R_elem HXx1.out z140 (x4_1 : Int) (odA) (by have h_ : (x4_1 : Int) < ((x3_1.length : Int) : Int) := odA; first | exact h_ | (have e_ := (Kd.R_reads' HO_y1.out).1; omega) | simpa using h_); obtain rfl := k140_openM hMx2; have HPx1 := Kd.R_seg HXx1.out (x4_1 : Int) (odA) (by have h_ : (x4_1 : Int) < ((x3_1.length : Int) : Int) := odA; first | exact h_ | (have e_ := (Kd.R_reads' HO_y1.out).1; omega) | simpa using h_) (seg := [.int .i64 t105, .int .i64 t106, .int .i64 t107]) (j := 0) hclx2 hccx2 (show 3 ≤ 3 from by decide) (x' := (⟨t105, t106, t107⟩ : S140)) (k140_mkM _ _ _ (⟨t105, t106, t107⟩ : S140) ) (fun _ hk => hk); have hxx7 := hccx2 0 _ rfl; (try simp only [show (k140).sz = 3 from rfl, Nat.mul_one, Nat.add_zero] at hxx7); have hfx4 := hfrx2 0; (try simp only [show (k140).sz = 3 from rfl, Nat.mul_one, Nat.add_zero] at hfx4); have hxx8 := hccx2 1 _ rfl; (try simp only [show (k140).sz = 3 from rfl, Nat.mul_one, Nat.add_zero] at hxx8); have hfx5 := hfrx2 1; (try simp only [show (k140).sz = 3 from rfl, Nat.mul_one, Nat.add_zero] at hfx5); have hxx9 := hccx2 2 _ rfl; (try simp only [show (k140).sz = 3 from rfl, Nat.mul_one, Nat.add_zero] at hxx9); have hfx6 := hfrx2 2; (try simp only [show (k140).sz = 3 from rfl, Nat.mul_one, Nat.add_zero] at hfx6); clear hclx2 hccx2 hfrx2 hMx2) | ((with_reducible refine gate_store (t := 140) (p := 21) rfl ?_); refine store_event (t := 140) (p := 21) (v := ?vo_wx2) (w1 := (((wx1.setCell ⟨gox1, (x4_1 : Int).toNat * 3, none⟩ (.int .i64 t105)).setCell ⟨gox1, (x4_1 : Int).toNat * 3 + 1, none⟩ (.int .i64 t106)).setCell ⟨gox1, (x4_1 : Int).toNat * 3 + 2, none⟩ (.int .i64 t107))) ?hg ?ho ?hn ?hr ?_; (case ho => rfl); (case hg => rfl); (case hn => rfl); (case hr => first | (go_simp; done) | (go_simp; rfl)); intro wx2 hw; have hg : wx1.grownBy wx2 (some gox1) := (by rw [hw]; exact HPx1.2); have hp_ : Kd.R k140 140 wx2 w.heap.size (fun _ => True) (.slice (some ⟨gox1, 0, none⟩) x3_1.length cox1) y108 := (by rw [hw, Ny108.out]; exact HPx1.1); clear HPx1; replace HO_y1 := aM (hp_); replace HB := aM ((by rw [hw]; exact below_set (below_set (below_set (HB.out) GBx1.out) GBx1.out) GBx1.out : Below w.heap.size w wx2)); clear hg hw hp_))
      go_roundg k1
      case measure => have := HKy1.out; omega
      case rel => exact ⟨(y108), (wrap64 (x4_1 + 1)), rS, H', ⟨by have := HKy1.out; omega⟩, ⟨(rX HO_y1.out)⟩, ⟨(hX HB.out)⟩⟩
def laws_toRes.f (k : Nat) (a0_0 : Int) (l0_1 : List Int) : Option (Int × List Int) := (laws_toIntS.f k l0_1).bind fun t104 => (some (a0_0, t104))
set_option maxHeartbeats 8000000 in
set_option maxRecDepth 100000 in
theorem laws_toRes.calls (k : Nat) (a0_0 : Int) (A0_1 : Option Addr) (c0_1 : Nat) (l0_1 : List Int) (r1 : Int) (r2 : List Int) (w : World) (hr0_1 : Kd.C (Kd.int .i64) w A0_1 l0_1.length l0_1) (hc0_1 : l0_1.length ≤ c0_1) (h : laws_toRes.f k a0_0 l0_1 = some (r1, r2)) :
    Calls Tryz.prog 168 #[.agg #[.int .i64 a0_0, .slice A0_1 l0_1.length c0_1]] w fun e w' => ∃ v1_ : Value, e = .returned (.agg #[.int .i64 r1, v1_]) ∧ Kd.R (Kd.int .i64) 3 w' w.heap.size (fun _ => True) v1_ r2 ∧ Below w.heap.size w w' := by
  have hu117 := Tryz.underlying117
  have hu71 := Tryz.underlying71
  have HR0_1 := aM hr0_1
  have HC0_1 := aM hc0_1
  clear hr0_1 hc0_1
  have HB := aM (Below.refl w.heap.size w)
  have H := h
  unfold laws_toRes.f at H
  clear h
  replace H := bE H; obtain ⟨t104, A2, H⟩ := H
  simp only [Option.some.injEq, Prod.mk.injEq] at H
  obtain ⟨rfl, rfl⟩ := H
  go_enter Tryz.func168, Tryz.ntmps168
  go_wp2_with (first | (refine boxE 1 #[.int .i64 a0_0, .slice A0_1 l0_1.length c0_1] 117 ?_; intro gbz1 hg wz1 hbox hb; have BKz1 := aM (hbox); have GWz1 := aG hg HB; have GEz1 := aG hg HB; replace HB := aS HB hb; clear hb hbox hg) | (refine boxE 2 #[.int .i64 0, .slice none 0 0] 71 ?_; intro gbz2 hg wz2 hbox hb; have BKz2 := aM (hbox); have GWz2 := aG hg HB; have GEz2 := aG hg HB; have NBz1 := aL hg BKz1; have NBz2 := aR hg BKz1; replace BKz1 := aB BKz1 hb; replace HB := aS HB hb; clear hb hbox hg) | (refine boxE 3 #[.int .i64 0, .slice none 0 0] 71 ?_; intro gbz3 hg wz3 hbox hb; have BKz3 := aM (hbox); have GWz3 := aG hg HB; have GEz3 := aG hg HB; have NBz3 := aL hg BKz1; have NBz4 := aR hg BKz1; have NBz5 := aL hg BKz2; have NBz6 := aR hg BKz2; replace BKz1 := aB BKz1 hb; replace BKz2 := aB BKz2 hb; replace HB := aS HB hb; clear hb hbox hg; have hnbz1 := NBz1.out; have hncz1 := NBz2.out; have hnbz2 := NBz3.out; have hncz2 := NBz4.out; obtain ⟨hczz1, hczz2, hfzz1, hfzz2⟩ := cZ2 BKz1.out; have hnbz3 := NBz6.out; have hncz3 := NBz5.out; obtain ⟨hczz3, hczz4, hfzz3, hfzz4⟩ := cZ2 BKz3.out) | (refine goesM 47 9 Tryz.func47 #[.slice A0_1 l0_1.length c0_1] ?_; refine (laws_toIntS.calls _ _ _ _ _ _ (by exact Kd.C_below HR0_1.out (hX HB.out)) HC0_1.out A2.out).mono ?_; rintro e wz4 ⟨vz1, rfl, hoz1, hb⟩; refine ⟨_, rfl, ?_⟩; have HOz1 := aM (Kd.R_lower hoz1 (below_size (hX HB.out))); replace BKz1 := aF BKz1 hb; replace BKz2 := aF BKz2 hb; replace BKz3 := aM (blk_below (g := gbz3) (o := .cells #[.int .i64 a0_0, .slice none 0 0] 71 (0, 0)) (bP BKz3.out) hb); replace HB := aS HB hb; clear hb hoz1; obtain ⟨Aoz1, coz1, eoz1⟩ := Kd.R_slice HOz1.out; subst eoz1; obtain ⟨hczz5, hczz6, hfzz5, hfzz6⟩ := cZ2 BKz3.out; obtain ⟨hczz7, hczz8, hfzz7, hfzz8⟩ := cZ2 BKz2.out))
  refine bodyPost_ret (results_cell_row rfl _ _ gbz2 71 #[.int .i64 a0_0, .slice Aoz1 t104.length coz1] (0, 0) _ rfl (bP BKz2.out) Tryz.underlying71 rfl (by kernel_rfl)) rfl ?_
  exact ⟨_, rE, (rT (h := by exact Kd.R_mono (Kd.R_far (p := ⟨gbz2, 1, none⟩) (Kd.R_far (p := ⟨gbz2, 0, none⟩) (Kd.R_far (p := ⟨gbz3, 1, none⟩) (Kd.R_types (Kd.R_types HOz1.out BKz3.out (by decide)) BKz2.out (by decide)) (fun _ hk => hk.1.2) (.slice Aoz1 t104.length coz1)) (fun _ hk => hk.2) (.int .i64 a0_0)) (fun _ hk => hk.2) (.slice Aoz1 t104.length coz1)) (fun _ hk => trivial))), (hX HB.out)⟩
def laws_toEntry.f (a0_0 : Int) (a0_1 : Int) (a0_2 : Int) : Option (Int × Int × Int) := some (a0_0, a0_1, a0_2)
set_option maxHeartbeats 8000000 in
set_option maxRecDepth 100000 in
theorem laws_toEntry.calls (a0_0 : Int) (a0_1 : Int) (a0_2 : Int) (r1 : Int) (r2 : Int) (r3 : Int) (w : World) (h : laws_toEntry.f a0_0 a0_1 a0_2 = some (r1, r2, r3)) :
    Calls Tryz.prog 219 #[.agg #[.int .i64 a0_0, .int .i64 a0_1, .int .i64 a0_2]] w fun e w' => e = .returned (.agg #[.int .i64 r1, .int .i64 r2, .int .i64 r3]) ∧ Below w.heap.size w w' := by
  have hu224 := Tryz.underlying224
  have hu165 := Tryz.underlying165
  have HB := aM (Below.refl w.heap.size w)
  have H := h
  unfold laws_toEntry.f at H
  clear h
  simp only [Option.some.injEq, Prod.mk.injEq] at H
  obtain ⟨rfl, rfl, rfl⟩ := H
  go_enter Tryz.func219, Tryz.ntmps219
  go_wp2_with (first | (refine boxE 1 #[.int .i64 a0_0, .int .i64 a0_1, .int .i64 a0_2] 224 ?_; intro gbz1 hg wz1 hbox hb; have BKz1 := aM (hbox); have GWz1 := aG hg HB; have GEz1 := aG hg HB; replace HB := aS HB hb; clear hb hbox hg) | (refine boxE 2 #[.int .i64 0, .int .i64 0, .int .i64 0] 165 ?_; intro gbz2 hg wz2 hbox hb; have BKz2 := aM (hbox); have GWz2 := aG hg HB; have GEz2 := aG hg HB; have NBz1 := aL hg BKz1; have NBz2 := aR hg BKz1; replace BKz1 := aB BKz1 hb; replace HB := aS HB hb; clear hb hbox hg) | (refine boxE 3 #[.int .i64 0, .int .i64 0, .int .i64 0] 165 ?_; intro gbz3 hg wz3 hbox hb; have BKz3 := aM (hbox); have GWz3 := aG hg HB; have GEz3 := aG hg HB; have NBz3 := aL hg BKz1; have NBz4 := aR hg BKz1; have NBz5 := aL hg BKz2; have NBz6 := aR hg BKz2; replace BKz1 := aB BKz1 hb; replace BKz2 := aB BKz2 hb; replace HB := aS HB hb; clear hb hbox hg; have hnbz1 := NBz1.out; have hncz1 := NBz2.out; have hnbz2 := NBz3.out; have hncz2 := NBz4.out; obtain ⟨hczz1, hczz2, hczz3, hfzz1, hfzz2, hfzz3⟩ := cZ3 BKz1.out; have hnbz3 := NBz6.out; have hncz3 := NBz5.out; obtain ⟨hczz4, hczz5, hczz6, hfzz4, hfzz5, hfzz6⟩ := cZ3 BKz3.out; obtain ⟨hczz7, hczz8, hczz9, hfzz7, hfzz8, hfzz9⟩ := cZ3 BKz2.out))
  refine bodyPost_ret (results_cell_row rfl _ _ gbz2 165 #[.int .i64 a0_0, .int .i64 a0_1, .int .i64 a0_2] (0, 0) _ rfl (bP BKz2.out) Tryz.underlying165 rfl (by kernel_rfl)) rfl ?_
  exact ⟨rE, (hX HB.out)⟩
def laws_toEntryS.l0 : Nat → List (S224) → List (S165) → Int → Option ((List (S165)))
  | 0, _, _, _ => none
  | k + 1, x0, x3, x4 => if x4 < (x0.length : Int) then (if 0 ≤ x4 then ((laws_toEntry.f ((rd_T224 x0 x4).f0) ((rd_T224 x0 x4).f1) ((rd_T224 x0 x4).f2)).bind fun bt105 => (if x4 < (x3.length : Int) then (laws_toEntryS.l0 k x0 (x3.set (x4 : Int).toNat (⟨bt105.1, bt105.2.1, bt105.2.2⟩ : S165)) (wrap64 (x4 + 1))) else (none))) else (none)) else (some x3)
def laws_toEntryS.f (k : Nat) (l0 : List (S224)) : Option ((List (S165))) := if 0 ≤ (l0.length : Int) then (if ((l0.length : Int) : Int).toNat ≤ 11728124029610 then (laws_toEntryS.l0 k l0 (List.replicate ((l0.length : Int) : Int).toNat z165) 0) else (none)) else (none)
set_option maxHeartbeats 8000000 in
set_option maxRecDepth 100000 in
theorem laws_toEntryS.calls (k : Nat) (A0 : Option Addr) (c0 : Nat) (l0 : List (S224)) (r : List (S165)) (w : World) (hr0 : Kd.C k224 w A0 l0.length l0) (hc0 : l0.length ≤ c0) (h : laws_toEntryS.f k l0 = some r) :
    Calls Tryz.prog 205 #[.slice A0 l0.length c0] w fun e w' => ∃ v0_ : Value, e = .returned (v0_) ∧ Kd.R k165 165 w' w.heap.size (fun _ => True) v0_ r ∧ Below w.heap.size w w' := by
  have hu224 := Tryz.underlying224
  have hu165 := Tryz.underlying165
  have HR0 := aM hr0
  have HC0 := aM hc0
  clear hr0 hc0
  have HB := aM (Below.refl w.heap.size w)
  have H := h
  unfold laws_toEntryS.f at H
  clear h
  replace H := ifP H; obtain ⟨c2, H⟩ := H
  have c2b0 := eq_true c2
  have c2b1 := decide_eq_true c2
  clear c2
  replace H := ifP H; obtain ⟨c3, H⟩ := H
  have c3b0 := eq_true c3
  have c3b1 := decide_eq_true c3
  clear c3
  obtain ⟨y101, hy101⟩ : ∃ y_ : List (S165), y_ = (List.replicate ((l0.length : Int) : Int).toNat z165) := ⟨_, rfl⟩
  replace H : (laws_toEntryS.l0 k l0 y101 0) = some r := yH H hy101
  have Ny101 := aM hy101
  clear hy101
  have H' := aM H
  clear H
  go_enter Tryz.func205, Tryz.ntmps205
  go_wp2_with (first | ((with_reducible refine gate_dst (N := 7) rfl ?_); refine Kd.R_make k165 _ 165 rfl (N := 7) rfl 160 _ _ rfl (l0.length : Int) rfl rfl Tryz.underlying160 (.agg #[(.int .i64 0), (.int .i64 0), (.int .i64 0)]) 24 info165 rfl (by decide) (by omega) z165 (ok := fun _ => True) (okp := fun _ => True) (k165_mkM _ _ _ z165 ) (fun _ hk => hk) trivial (odA) (Nat.le_trans (Nat.mul_le_mul_right _ (odA : (l0.length : Int).toNat ≤ 11728124029610)) (by omega)) (Below.refl _ _) (Nat.le_refl _) ?_; intro vz1 wz1 hoz1 hb hg_ hnew_; clear hg_ hnew_; (first | rw [← Ny101.out] at hoz1 | (simp only [Int.reduceToNat] at hoz1; rw [← Ny101.out] at hoz1)); have HOz1 := aM (Kd.R_lower hoz1 (below_size (hX HB.out))); replace HB := aS HB hb; clear hb hoz1))
  go_loopg [4] k (fun kq v4 w' => ∃ (x3_1 : List (S165)) (x4_1 : Int), v4 = .int .i64 x4_1 ∧ Aside0 (laws_toEntryS.l0 kq l0 x3_1 x4_1 = some r) ∧ Aside0 (kq ≤ k) ∧ Aside0 (Kd.R k165 165 w' w.heap.size (fun _ => True) vz1 x3_1) ∧ Aside0 (Below w.heap.size w w'))
  case atStart => exact ⟨(y101), (0), rS, H', ⟨Nat.le_refl _⟩, ⟨(rX HOz1.out)⟩, ⟨(hX HB.out)⟩⟩
  case round =>
    clear H'
    try clear c2
    try clear c2b0
    try clear c2b1
    try clear p2
    try clear c3
    try clear c3b0
    try clear c3b1
    obtain ⟨x3_1, x4_1, rfl, HA, HKy1, HO_y1, HB⟩ := hrel
    cases gk with
    | zero => exact absurd HA.out (by simp [laws_toEntryS.l0])
    | succ k1 =>
      have H := HA.out
      clear HA
      simp only [laws_toEntryS.l0] at H
      by_cases c6 : x4_1 < (l0.length : Int)
      case neg =>
        rw [if_neg c6] at H
        have c6b0 := decide_eq_false c6
        clear c6
        obtain rfl := sI H
        go_wp2
        go_ret
        exact ⟨_, rE, (rX HO_y1.out), (hX HB.out)⟩
      rw [if_pos c6] at H
      have c6b0 := decide_eq_true c6
      clear c6
      replace H := ifP H; obtain ⟨c7, H⟩ := H
      have c7b0 := decide_eq_true c7
      clear c7
      replace H := bE H; obtain ⟨⟨t105, t106, t107⟩, A8, H⟩ := H
      try dsimp only at H
      replace H := ifP H; obtain ⟨c9, H⟩ := H
      have c9b0 := decide_eq_true c9
      clear c9
      obtain ⟨y108, hy108⟩ : ∃ y_ : List (S165), y_ = (x3_1.set (x4_1 : Int).toNat (⟨t105, t106, t107⟩ : S165)) := ⟨_, rfl⟩
      replace H : (laws_toEntryS.l0 k1 l0 y108 (wrap64 (x4_1 + 1))) = some r := yH H hy108
      have Ny108 := aM hy108
      clear hy108
      have H' := aM H
      clear H
      have px1 : 0 ≤ (x4_1 : Int) := odA
      have qx1 : x4_1 < (l0.length : Int) := odA
      obtain ⟨adx1, ex1, hxx1, hxx2, hxx3⟩ := at_T224b HR0.out HB.out x4_1 px1 qx1
      cases ex1
      replace px1 := eq_true px1
      replace qx1 := eq_true qx1
      go_wp2_with (first | (refine goesM 219 20 Tryz.func219 #[.agg #[.int .i64 ((rd_T224 l0 x4_1).f0), .int .i64 ((rd_T224 l0 x4_1).f1), .int .i64 ((rd_T224 l0 x4_1).f2)]] ?_; refine (laws_toEntry.calls _ _ _ _ _ _ _ A8.out).mono ?_; rintro e wx1 ⟨rfl, hb⟩; refine ⟨_, rfl, ?_⟩; replace HO_y1 := aQ HO_y1 hb; replace HB := aS HB hb; clear hb; have px2 : 0 ≤ (x4_1 : Int) := odA; have qx2 : (x4_1 : Int) < ((x3_1.length : Int) : Int) := odA; obtain ⟨gox1, cox1, eox1, gbx1, glx1, clx1, HGx1⟩ := Kd.R_form HO_y1.out (by omega); (first | cases eox1 | (injection eox1 with ea_ en_ ec_; (first | subst ea_ | (injection ea_ with ea_; subst ea_)); subst ec_; clear en_)); have GBx1 := aM gbx1; have GGx1 := aM HGx1; clear gbx1 glx1 HGx1; obtain ⟨cex1, hclx1, hMx1, hccx1, hfrx1⟩ := Kd.R_elem HO_y1.out z165 (x4_1 : Int) px2 qx2; obtain rfl := k165_openM hMx1; have hxx4 : wx1.cell? ⟨gox1, (x4_1 : Int).toNat * 3, none⟩ = some (.int .i64 ((rd_T165 x3_1 x4_1).f0)) := hccx1 0 _ rfl; have hxx5 : wx1.cell? ⟨gox1, (x4_1 : Int).toNat * 3 + 1, none⟩ = some (.int .i64 ((rd_T165 x3_1 x4_1).f1)) := hccx1 1 _ rfl; have hxx6 : wx1.cell? ⟨gox1, (x4_1 : Int).toNat * 3 + 2, none⟩ = some (.int .i64 ((rd_T165 x3_1 x4_1).f2)) := hccx1 2 _ rfl; have hfx1 : wx1.frozen? ⟨gox1, (x4_1 : Int).toNat * 3, none⟩ = false := hfrx1 0; have hfx2 : wx1.frozen? ⟨gox1, (x4_1 : Int).toNat * 3 + 1, none⟩ = false := hfrx1 1; have hfx3 : wx1.frozen? ⟨gox1, (x4_1 : Int).toNat * 3 + 2, none⟩ = false := hfrx1 2; clear hclx1 hccx1 hfrx1 hMx1; replace px2 := eq_true px2; replace qx2 := eq_true qx2; have HXx1 := aM (show Kd.R k165 165 wx1 w.heap.size (fun _ => True) (.slice (some ⟨gox1, 0, none⟩) x3_1.length cox1) x3_1 from (rX HO_y1.out)); obtain ⟨cex2, hclx2, hMx2, hccx2, hfrx2⟩ := Kd.R_elem HXx1.out z165 (x4_1 : Int) (odA) (by have h_ : (x4_1 : Int) < ((x3_1.length : Int) : Int) := odA; first | exact h_ | (have e_ := (Kd.R_reads' HO_y1.out).1; omega) | simpa using h_); obtain rfl := k165_openM hMx2; have HPx1 := Kd.R_seg HXx1.out (x4_1 : Int) (odA) (by have h_ : (x4_1 : Int) < ((x3_1.length : Int) : Int) := odA; first | exact h_ | (have e_ := (Kd.R_reads' HO_y1.out).1; omega) | simpa using h_) (seg := [.int .i64 t105, .int .i64 t106, .int .i64 t107]) (j := 0) hclx2 hccx2 (show 3 ≤ 3 from by decide) (x' := (⟨t105, t106, t107⟩ : S165)) (k165_mkM _ _ _ (⟨t105, t106, t107⟩ : S165) ) (fun _ hk => hk); have hxx7 := hccx2 0 _ rfl; (try simp only [show (k165).sz = 3 from rfl, Nat.mul_one, Nat.add_zero] at hxx7); have hfx4 := hfrx2 0; (try simp only [show (k165).sz = 3 from rfl, Nat.mul_one, Nat.add_zero] at hfx4); have hxx8 := hccx2 1 _ rfl; (try simp only [show (k165).sz = 3 from rfl, Nat.mul_one, Nat.add_zero] at hxx8); have hfx5 := hfrx2 1; (try simp only [show (k165).sz = 3 from rfl, Nat.mul_one, Nat.add_zero] at hfx5); have hxx9 := hccx2 2 _ rfl; (try simp only [show (k165).sz = 3 from rfl, Nat.mul_one, Nat.add_zero] at hxx9); have hfx6 := hfrx2 2; (try simp only [show (k165).sz = 3 from rfl, Nat.mul_one, Nat.add_zero] at hfx6); clear hclx2 hccx2 hfrx2 hMx2) | ((with_reducible refine gate_store (t := 165) (p := 21) rfl ?_); refine store_event (t := 165) (p := 21) (v := ?vo_wx2) (w1 := (((wx1.setCell ⟨gox1, (x4_1 : Int).toNat * 3, none⟩ (.int .i64 t105)).setCell ⟨gox1, (x4_1 : Int).toNat * 3 + 1, none⟩ (.int .i64 t106)).setCell ⟨gox1, (x4_1 : Int).toNat * 3 + 2, none⟩ (.int .i64 t107))) ?hg ?ho ?hn ?hr ?_; (case ho => rfl); (case hg => rfl); (case hn => rfl); (case hr => first | (go_simp; done) | (go_simp; rfl)); intro wx2 hw; have hg : wx1.grownBy wx2 (some gox1) := (by rw [hw]; exact HPx1.2); have hp_ : Kd.R k165 165 wx2 w.heap.size (fun _ => True) (.slice (some ⟨gox1, 0, none⟩) x3_1.length cox1) y108 := (by rw [hw, Ny108.out]; exact HPx1.1); clear HPx1; replace HO_y1 := aM (hp_); replace HB := aM ((by rw [hw]; exact below_set (below_set (below_set (HB.out) GBx1.out) GBx1.out) GBx1.out : Below w.heap.size w wx2)); clear hg hw hp_))
      go_roundg k1
      case measure => have := HKy1.out; omega
      case rel => exact ⟨(y108), (wrap64 (x4_1 + 1)), rS, H', ⟨by have := HKy1.out; omega⟩, ⟨(rX HO_y1.out)⟩, ⟨(hX HB.out)⟩⟩
def laws_toDesc.f (k : Nat) (a0_0 : Int) (a0_1 : Int) (l0_2 : List (S224)) (a0_3 : Int) (l0_4 : List Int) : Option (Int × Int × (List (S165)) × Int × List Int) := (laws_toEntryS.f k l0_2).bind fun t104 => ((laws_toRes.f k a0_3 l0_4).bind fun bt107 => (some (a0_0, a0_1, t104, bt107.1, bt107.2)))
set_option maxHeartbeats 8000000 in
set_option maxRecDepth 100000 in
theorem laws_toDesc.calls (k : Nat) (a0_0 : Int) (a0_1 : Int) (A0_2 : Option Addr) (c0_2 : Nat) (l0_2 : List (S224)) (a0_3 : Int) (A0_4 : Option Addr) (c0_4 : Nat) (l0_4 : List Int) (r1 : Int) (r2 : Int) (r3 : List (S165)) (r4 : Int) (r5 : List Int) (w : World) (hr0_2 : Kd.C k224 w A0_2 l0_2.length l0_2) (hc0_2 : l0_2.length ≤ c0_2) (hr0_4 : Kd.C (Kd.int .i64) w A0_4 l0_4.length l0_4) (hc0_4 : l0_4.length ≤ c0_4) (h : laws_toDesc.f k a0_0 a0_1 l0_2 a0_3 l0_4 = some (r1, r2, r3, r4, r5)) :
    Calls Tryz.prog 165 #[.agg #[.int .i64 a0_0, .int .i64 a0_1, .slice A0_2 l0_2.length c0_2, .int .i64 a0_3, .slice A0_4 l0_4.length c0_4]] w fun e w' => ∃ v2_ v4_ : Value, e = .returned (.agg #[.int .i64 r1, .int .i64 r2, v2_, .int .i64 r4, v4_]) ∧ Kd.R k165 165 w' w.heap.size (fun _ => True) v2_ r3 ∧ Kd.R (Kd.int .i64) 3 w' w.heap.size (fun _ => True) v4_ r5 ∧ Below w.heap.size w w' := by
  have hu155 := Tryz.underlying155
  have hu162 := Tryz.underlying162
  have hu117 := Tryz.underlying117
  have hu71 := Tryz.underlying71
  have HR0_2 := aM hr0_2
  have HC0_2 := aM hc0_2
  clear hr0_2 hc0_2
  have HR0_4 := aM hr0_4
  have HC0_4 := aM hc0_4
  clear hr0_4 hc0_4
  have HB := aM (Below.refl w.heap.size w)
  have H := h
  unfold laws_toDesc.f at H
  clear h
  replace H := bE H; obtain ⟨t104, A2, H⟩ := H
  replace H := bE H; obtain ⟨⟨t107, t108⟩, A3, H⟩ := H
  try dsimp only at H
  simp only [Option.some.injEq, Prod.mk.injEq] at H
  obtain ⟨rfl, rfl, rfl, rfl, rfl⟩ := H
  go_enter Tryz.func165, Tryz.ntmps165
  go_wp2_with (first | (refine boxE 1 #[.int .i64 a0_0, .int .i64 a0_1, .slice A0_2 l0_2.length c0_2, .int .i64 a0_3, .slice A0_4 l0_4.length c0_4] 155 ?_; intro gbz1 hg wz1 hbox hb; have BKz1 := aM (hbox); have GWz1 := aG hg HB; have GEz1 := aG hg HB; replace HB := aS HB hb; clear hb hbox hg) | (refine boxE 2 #[.int .i64 0, .int .i64 0, .slice none 0 0, .int .i64 0, .slice none 0 0] 162 ?_; intro gbz2 hg wz2 hbox hb; have BKz2 := aM (hbox); have GWz2 := aG hg HB; have GEz2 := aG hg HB; have NBz1 := aL hg BKz1; have NBz2 := aR hg BKz1; replace BKz1 := aB BKz1 hb; replace HB := aS HB hb; clear hb hbox hg) | (refine boxE 3 #[.int .i64 0, .int .i64 0, .slice none 0 0, .int .i64 0, .slice none 0 0] 162 ?_; intro gbz3 hg wz3 hbox hb; have BKz3 := aM (hbox); have GWz3 := aG hg HB; have GEz3 := aG hg HB; have NBz3 := aL hg BKz1; have NBz4 := aR hg BKz1; have NBz5 := aL hg BKz2; have NBz6 := aR hg BKz2; replace BKz1 := aB BKz1 hb; replace BKz2 := aB BKz2 hb; replace HB := aS HB hb; clear hb hbox hg; have hnbz1 := NBz1.out; have hncz1 := NBz2.out; have hnbz2 := NBz3.out; have hncz2 := NBz4.out; obtain ⟨hczz1, hczz2, hczz3, hczz4, hczz5, hfzz1, hfzz2, hfzz3, hfzz4, hfzz5⟩ := cZ5 BKz1.out; have hnbz3 := NBz6.out; have hncz3 := NBz5.out; obtain ⟨hczz6, hczz7, hczz8, hczz9, hczz10, hfzz6, hfzz7, hfzz8, hfzz9, hfzz10⟩ := cZ5 BKz3.out) | (refine goesM 205 12 Tryz.func205 #[.slice A0_2 l0_2.length c0_2] ?_; refine (laws_toEntryS.calls _ _ _ _ _ _ (by exact Kd.C_below HR0_2.out (hX HB.out)) HC0_2.out A2.out).mono ?_; rintro e wz4 ⟨vz1, rfl, hoz1, hb⟩; refine ⟨_, rfl, ?_⟩; have HOz1 := aM (Kd.R_lower hoz1 (below_size (hX HB.out))); replace BKz1 := aF BKz1 hb; replace BKz2 := aF BKz2 hb; replace BKz3 := aM (blk_below (g := gbz3) (o := .cells #[.int .i64 a0_0, .int .i64 a0_1, .slice none 0 0, .int .i64 0, .slice none 0 0] 162 (0, 0)) (bP BKz3.out) hb); replace HB := aS HB hb; clear hb hoz1; obtain ⟨Aoz1, coz1, eoz1⟩ := Kd.R_slice HOz1.out; subst eoz1; obtain ⟨hczz11, hczz12, hczz13, hczz14, hczz15, hfzz11, hfzz12, hfzz13, hfzz14, hfzz15⟩ := cZ5 BKz3.out; obtain ⟨hczz16, hczz17, hczz18, hczz19, hczz20, hfzz16, hfzz17, hfzz18, hfzz19, hfzz20⟩ := cZ5 BKz1.out) | (refine goesM 168 16 Tryz.func168 #[.agg #[.int .i64 a0_3, .slice A0_4 l0_4.length c0_4]] ?_; refine (laws_toRes.calls _ _ _ _ _ _ _ _ (by exact Kd.C_below HR0_4.out (hX HB.out)) HC0_4.out A3.out).mono ?_; rintro e wz5 ⟨vz2, rfl, hoz1, hb⟩; refine ⟨_, rfl, ?_⟩; have HOz2 := aM (Kd.R_lower hoz1 (below_size (hX HB.out))); replace HOz1 := aM (Kd.R_below (rF HOz1.out BKz3.out) hb); replace BKz1 := aF BKz1 hb; replace BKz2 := aF BKz2 hb; replace BKz3 := aM (blk_below (g := gbz3) (o := .cells #[.int .i64 a0_0, .int .i64 a0_1, .slice Aoz1 t104.length coz1, .int .i64 0, .slice none 0 0] 162 (0, 0)) (bP BKz3.out) hb); replace HB := aS HB hb; clear hb hoz1; obtain ⟨hczz21, hczz22, hczz23, hczz24, hczz25, hfzz21, hfzz22, hfzz23, hfzz24, hfzz25⟩ := cZ5 BKz3.out; obtain ⟨Aoz2, coz2, eoz2⟩ := Kd.R_slice HOz2.out; subst eoz2; obtain ⟨hczz26, hczz27, hczz28, hczz29, hczz30, hfzz26, hfzz27, hfzz28, hfzz29, hfzz30⟩ := cZ5 BKz2.out))
  refine bodyPost_ret (results_cell_row rfl _ _ gbz2 162 #[.int .i64 a0_0, .int .i64 a0_1, .slice Aoz1 t104.length coz1, .int .i64 t107, .slice Aoz2 t108.length coz2] (0, 0) _ rfl (bP BKz2.out) Tryz.underlying162 rfl (by kernel_rfl)) rfl ?_
  exact ⟨_, _, rE, (rT (h := by exact Kd.R_mono (Kd.R_far (p := ⟨gbz2, 4, none⟩) (Kd.R_far (p := ⟨gbz2, 3, none⟩) (Kd.R_far (p := ⟨gbz2, 2, none⟩) (Kd.R_far (p := ⟨gbz2, 1, none⟩) (Kd.R_far (p := ⟨gbz2, 0, none⟩) (Kd.R_far (p := ⟨gbz3, 4, none⟩) (Kd.R_far (p := ⟨gbz3, 3, none⟩) (Kd.R_types (Kd.R_types HOz1.out BKz3.out (by decide)) BKz2.out (by decide)) (fun _ hk => hk.1.2) (.int .i64 t107)) (fun _ hk => hk.1.2) (.slice Aoz2 t108.length coz2)) (fun _ hk => hk.2) (.int .i64 a0_0)) (fun _ hk => hk.2) (.int .i64 a0_1)) (fun _ hk => hk.2) (.slice Aoz1 t104.length coz1)) (fun _ hk => hk.2) (.int .i64 t107)) (fun _ hk => hk.2) (.slice Aoz2 t108.length coz2)) (fun _ hk => trivial))), (rT (h := by exact Kd.R_mono (Kd.R_far (p := ⟨gbz2, 4, none⟩) (Kd.R_far (p := ⟨gbz2, 3, none⟩) (Kd.R_far (p := ⟨gbz2, 2, none⟩) (Kd.R_far (p := ⟨gbz2, 1, none⟩) (Kd.R_far (p := ⟨gbz2, 0, none⟩) (Kd.R_far (p := ⟨gbz3, 4, none⟩) (Kd.R_far (p := ⟨gbz3, 3, none⟩) (Kd.R_types (Kd.R_types HOz2.out BKz3.out (by decide)) BKz2.out (by decide)) (fun _ hk => hk.1.2) (.int .i64 t107)) (fun _ hk => hk.1.2) (.slice Aoz2 t108.length coz2)) (fun _ hk => hk.2) (.int .i64 a0_0)) (fun _ hk => hk.2) (.int .i64 a0_1)) (fun _ hk => hk.2) (.slice Aoz1 t104.length coz1)) (fun _ hk => hk.2) (.int .i64 t107)) (fun _ hk => hk.2) (.slice Aoz2 t108.length coz2)) (fun _ hk => trivial))), (hX HB.out)⟩
def laws_toDescS.l0 : Nat → List (S155) → List (S162) → Int → Option ((List (S162)))
  | 0, _, _, _ => none
  | k + 1, x0, x3, x4 => if x4 < (x0.length : Int) then (if 0 ≤ x4 then ((laws_toDesc.f k ((rd_T155 x0 x4).f0) ((rd_T155 x0 x4).f1) ((rd_T155 x0 x4).f2) ((rd_T155 x0 x4).f3.f0) ((rd_T155 x0 x4).f3.f1)).bind fun bt105 => (if x4 < (x3.length : Int) then (laws_toDescS.l0 k x0 (x3.set (x4 : Int).toNat (⟨bt105.1, bt105.2.1, bt105.2.2.1, (⟨bt105.2.2.2.1, bt105.2.2.2.2⟩ : S71)⟩ : S162)) (wrap64 (x4 + 1))) else (none))) else (none)) else (some x3)
def laws_toDescS.f (k : Nat) (l0 : List (S155)) : Option ((List (S162))) := if 0 ≤ (l0.length : Int) then (if ((l0.length : Int) : Int).toNat ≤ 3909374676536 then (laws_toDescS.l0 k l0 (List.replicate ((l0.length : Int) : Int).toNat z162) 0) else (none)) else (none)
set_option maxHeartbeats 8000000 in
set_option maxRecDepth 100000 in
theorem laws_toDescS.calls (k : Nat) (A0 : Option Addr) (c0 : Nat) (l0 : List (S155)) (r : List (S162)) (w : World) (hr0 : Kd.C k155 w A0 l0.length l0) (hc0 : l0.length ≤ c0) (h : laws_toDescS.f k l0 = some r) :
    Calls Tryz.prog 98 #[.slice A0 l0.length c0] w fun e w' => ∃ v0_ : Value, e = .returned (v0_) ∧ Kd.S k162 162 w' w.heap.size (fun _ => True) v0_ r ∧ Below w.heap.size w w' := by
  have hu155 := Tryz.underlying155
  have hu162 := Tryz.underlying162
  have HR0 := aM hr0
  have HC0 := aM hc0
  clear hr0 hc0
  have HB := aM (Below.refl w.heap.size w)
  have H := h
  unfold laws_toDescS.f at H
  clear h
  replace H := ifP H; obtain ⟨c2, H⟩ := H
  have c2b0 := eq_true c2
  have c2b1 := decide_eq_true c2
  clear c2
  replace H := ifP H; obtain ⟨c3, H⟩ := H
  have c3b0 := eq_true c3
  have c3b1 := decide_eq_true c3
  clear c3
  obtain ⟨y101, hy101⟩ : ∃ y_ : List (S162), y_ = (List.replicate ((l0.length : Int) : Int).toNat z162) := ⟨_, rfl⟩
  replace H : (laws_toDescS.l0 k l0 y101 0) = some r := yH H hy101
  have Ny101 := aM hy101
  clear hy101
  have H' := aM H
  clear H
  go_enter Tryz.func98, Tryz.ntmps98
  go_wp2_with (first | ((with_reducible refine gate_dst (N := 7) rfl ?_); refine Kd.S_make k162 _ 162 rfl (N := 7) rfl 36 _ _ rfl (l0.length : Int) rfl rfl Tryz.underlying36 (.agg #[(.int .i64 0), (.int .i64 0), (.slice none 0 0), (.int .i64 0), (.slice none 0 0)]) 72 info162 rfl (by decide) (by omega) z162 (ok := fun _ => True) (okp := fun _ => True) (k162_mkM _ _ _ z162 (Kd.R_nil _ _ _ _ _) (Kd.R_nil _ _ _ _ _)) (fun _ hk => hk) trivial (odA) (Nat.le_trans (Nat.mul_le_mul_right _ (odA : (l0.length : Int).toNat ≤ 3909374676536)) (by omega)) (Below.refl _ _) (Nat.le_refl _) ?_; intro vz1 wz1 hoz1 hb hg_ hnew_; clear hg_ hnew_; (first | rw [← Ny101.out] at hoz1 | (simp only [Int.reduceToNat] at hoz1; rw [← Ny101.out] at hoz1)); have HOz1 := aM (Kd.S_lower hoz1 (below_size (hX HB.out))); replace HB := aS HB hb; clear hb hoz1))
  go_loopg [4] k (fun kq v4 w' => ∃ (x3_1 : List (S162)) (x4_1 : Int), v4 = .int .i64 x4_1 ∧ Aside0 (laws_toDescS.l0 kq l0 x3_1 x4_1 = some r) ∧ Aside0 (kq ≤ k) ∧ Aside0 (Kd.S k162 162 w' w.heap.size (fun _ => True) vz1 x3_1) ∧ Aside0 (Below w.heap.size w w'))
  case atStart => exact ⟨(y101), (0), rS, H', ⟨Nat.le_refl _⟩, ⟨(sX HOz1.out)⟩, ⟨(hX HB.out)⟩⟩
  case round =>
    clear H'
    try clear c2
    try clear c2b0
    try clear c2b1
    try clear p2
    try clear c3
    try clear c3b0
    try clear c3b1
    obtain ⟨x3_1, x4_1, rfl, HA, HKy1, HO_y1, HB⟩ := hrel
    cases gk with
    | zero => exact absurd HA.out (by simp [laws_toDescS.l0])
    | succ k1 =>
      have H := HA.out
      clear HA
      simp only [laws_toDescS.l0] at H
      by_cases c6 : x4_1 < (l0.length : Int)
      case neg =>
        rw [if_neg c6] at H
        have c6b0 := decide_eq_false c6
        clear c6
        obtain rfl := sI H
        go_wp2
        go_ret
        exact ⟨_, rE, (sX HO_y1.out), (hX HB.out)⟩
      rw [if_pos c6] at H
      have c6b0 := decide_eq_true c6
      clear c6
      replace H := ifP H; obtain ⟨c7, H⟩ := H
      have c7b0 := decide_eq_true c7
      clear c7
      replace H := bE H; obtain ⟨⟨t105, t106, t107, t110, t111⟩, A8, H⟩ := H
      try dsimp only at H
      replace H := ifP H; obtain ⟨c9, H⟩ := H
      have c9b0 := decide_eq_true c9
      clear c9
      obtain ⟨y114, hy114⟩ : ∃ y_ : List (S162), y_ = (x3_1.set (x4_1 : Int).toNat (⟨t105, t106, t107, (⟨t110, t111⟩ : S71)⟩ : S162)) := ⟨_, rfl⟩
      replace H : (laws_toDescS.l0 k1 l0 y114 (wrap64 (x4_1 + 1))) = some r := yH H hy114
      have Ny114 := aM hy114
      clear hy114
      have H' := aM H
      clear H
      have px1 : 0 ≤ (x4_1 : Int) := odA
      have qx1 : x4_1 < (l0.length : Int) := odA
      obtain ⟨adx1, Ax1, cx1, Ax2, cx2, ex1, hxx1, hxx2, hxx3, hxx4, hxx5, hlx1, hix1, hlx2, hix2⟩ := at_T155b HR0.out HB.out x4_1 px1 qx1
      cases ex1
      have HRx1 := aM hix1
      have HCx1 := aM hlx1
      clear hix1 hlx1
      have HRx2 := aM hix2
      have HCx2 := aM hlx2
      clear hix2 hlx2
      replace px1 := eq_true px1
      replace qx1 := eq_true qx1
      go_wp2_with (first | (refine goesM 165 20 Tryz.func165 #[.agg #[.int .i64 ((rd_T155 l0 x4_1).f0), .int .i64 ((rd_T155 l0 x4_1).f1), .slice Ax1 ((rd_T155 l0 x4_1).f2).length cx1, .int .i64 ((rd_T155 l0 x4_1).f3.f0), .slice Ax2 ((rd_T155 l0 x4_1).f3.f1).length cx2]] ?_; refine (laws_toDesc.calls _ _ _ _ _ _ _ _ _ _ _ _ _ _ _ _ (cC HRx1.out HB.out) HCx1.out (cC HRx2.out HB.out) HCx2.out A8.out).mono ?_; rintro e wx1 ⟨vx1, vx2, rfl, hox1, hox2, hb⟩; refine ⟨_, rfl, ?_⟩; have HOx1 := aM (Kd.R_lower hox1 (below_size (hX HB.out))); have HOx2 := aM (Kd.R_lower hox2 (below_size (hX HB.out))); replace HO_y1 := aM (Kd.S_mono (Kd.S_told (Kd.S_told (Kd.S_old (sX HO_y1.out) hb) (Kd.R_base hox1)) (Kd.R_base hox2)) (fun _ h_ => h_.1)); replace HB := aS HB hb; clear hb hox1 hox2; have px2 : 0 ≤ (x4_1 : Int) := odA; have qx2 : (x4_1 : Int) < ((x3_1.length : Int) : Int) := odA; obtain ⟨gox1, cox1, eox1, gbx1, glx1, clx1, HGx1⟩ := Kd.S_form HO_y1.out (by omega); (first | cases eox1 | (injection eox1 with ea_ en_ ec_; (first | subst ea_ | (injection ea_ with ea_; subst ea_)); subst ec_; clear en_)); have GBx1 := aM gbx1; have GGx1 := aM HGx1; clear gbx1 glx1 HGx1; obtain ⟨_, cex1, hclx1, hMx1, hccx1, hfrx1, _, _⟩ := Kd.S_elem HO_y1.out z162 (x4_1 : Int) px2 qx2; obtain ⟨vex1, vex2, rfl, gex1, gex2⟩ := k162_openM hMx1; have hxx6 : wx1.cell? ⟨gox1, (x4_1 : Int).toNat * 5, none⟩ = some (.int .i64 ((rd_T162 x3_1 x4_1).f0)) := hccx1 0 _ rfl; have hxx7 : wx1.cell? ⟨gox1, (x4_1 : Int).toNat * 5 + 1, none⟩ = some (.int .i64 ((rd_T162 x3_1 x4_1).f1)) := hccx1 1 _ rfl; have hxx8 : wx1.cell? ⟨gox1, (x4_1 : Int).toNat * 5 + 2, none⟩ = some (vex1) := hccx1 2 _ rfl; have hxx9 : wx1.cell? ⟨gox1, (x4_1 : Int).toNat * 5 + 3, none⟩ = some (.int .i64 ((rd_T162 x3_1 x4_1).f3.f0)) := hccx1 3 _ rfl; have hxx10 : wx1.cell? ⟨gox1, (x4_1 : Int).toNat * 5 + 4, none⟩ = some (vex2) := hccx1 4 _ rfl; have hfx1 : wx1.frozen? ⟨gox1, (x4_1 : Int).toNat * 5, none⟩ = false := hfrx1 0; have hfx2 : wx1.frozen? ⟨gox1, (x4_1 : Int).toNat * 5 + 1, none⟩ = false := hfrx1 1; have hfx3 : wx1.frozen? ⟨gox1, (x4_1 : Int).toNat * 5 + 2, none⟩ = false := hfrx1 2; have hfx4 : wx1.frozen? ⟨gox1, (x4_1 : Int).toNat * 5 + 3, none⟩ = false := hfrx1 3; have hfx5 : wx1.frozen? ⟨gox1, (x4_1 : Int).toNat * 5 + 4, none⟩ = false := hfrx1 4; clear hclx1 hccx1 hfrx1 hMx1; replace px2 := eq_true px2; replace qx2 := eq_true qx2; obtain ⟨Aox1, cox2, eox2⟩ := Kd.R_slice HOx1.out; subst eox2; obtain ⟨Aox2, cox3, eox3⟩ := Kd.R_slice HOx2.out; subst eox3; have n_ := aM (Kd.S_mono (ok' := (fun k_ => some k_ ≠ (.slice Aox1 t107.length cox2 : Value).ownBlock ∧ some k_ ≠ (.slice Aox2 t111.length cox3 : Value).ownBlock)) HO_y1.out (fun k_ hk => ⟨hk.1.2, hk.2⟩)); clear HO_y1; have HO_y1 := n_; clear n_; have HXx1 := aM (show Kd.S k162 162 wx1 w.heap.size (fun k_ => ((fun _ => True)) k_ ∧ ¬ ((fun k_ => some k_ = (.slice Aox1 t107.length cox2 : Value).ownBlock ∨ some k_ = (.slice Aox2 t111.length cox3 : Value).ownBlock)) k_) (.slice (some ⟨gox1, 0, none⟩) x3_1.length cox1) x3_1 from (by (with_reducible repeat (first | apply Kd.S_alloc | apply Kd.S_drewN | apply Kd.S_drew)); exact Kd.S_mono HO_y1.out (fun k_ hk => ⟨trivial, fun e_ => e_.elim (fun h_ => hk.1 h_) (fun h_ => hk.2 h_)⟩))); obtain ⟨okix1, cex2, hclx2, hMx2, hccx2, hfrx2, hokix1, hHx1⟩ := Kd.S_elem HXx1.out z162 (x4_1 : Int) (odA) (by have h_ : (x4_1 : Int) < ((x3_1.length : Int) : Int) := odA; first | exact h_ | (have e_ := (Kd.S_reads' HO_y1.out).1; omega) | simpa using h_); obtain ⟨vex3, vex4, rfl, gex3, gex4⟩ := k162_openM hMx2; have HPx1 := Kd.S_seg hHx1 (odA) (by have h_ : (x4_1 : Int) < ((x3_1.length : Int) : Int) := odA; first | exact h_ | (have e_ := (Kd.S_reads' HO_y1.out).1; omega) | simpa using h_) (seg := [.int .i64 t105, .int .i64 t106, .slice Aox1 t107.length cox2, .int .i64 t110, .slice Aox2 t111.length cox3]) (j := 0) (show 5 ≤ 5 from by decide) (x' := (⟨t105, t106, t107, (⟨t110, t111⟩ : S71)⟩ : S162)) (k162_mkM _ _ _ (⟨t105, t106, t107, (⟨t110, t111⟩ : S71)⟩ : S162) (Kd.R_mono (Kd.R_tight rfl (Kd.R_mono (ok' := fun k_ => ((fun _ => True)) k_ ∧ k_ ≠ gox1) (Kd.R_apart' (HOx1.out) (Kd.S_typed HO_y1.out) (by decide)) (fun k_ hk => ⟨trivial, fun e_ => (hk.2) (by rw [e_]; rfl)⟩))) (fun _ h_ => Or.inr (Or.inl h_))) (Kd.R_mono (Kd.R_tight rfl (Kd.R_mono (ok' := fun k_ => ((fun _ => True)) k_ ∧ k_ ≠ gox1) (Kd.R_apart' (HOx2.out) (Kd.S_typed HO_y1.out) (by decide)) (fun k_ hk => ⟨trivial, fun e_ => (hk.2) (by rw [e_]; rfl)⟩))) (fun _ h_ => Or.inr (Or.inr (h_))))) (fun _ hk => hk) (fun k_ hk_ => hk_.elim (fun h_ => ((Kd.R_mono (ok' := fun k_ => ((fun _ => True)) k_ ∧ k_ ≠ gox1) (Kd.R_apart' (HOx1.out) (Kd.S_typed HO_y1.out) (by decide)) (fun k_ hk => ⟨trivial, fun e_ => (hk.2) (by rw [e_]; rfl)⟩))).1 k_ h_.symm) (fun h_ => ((Kd.R_mono (ok' := fun k_ => ((fun _ => True)) k_ ∧ k_ ≠ gox1) (Kd.R_apart' (HOx2.out) (Kd.S_typed HO_y1.out) (by decide)) (fun k_ hk => ⟨trivial, fun e_ => (hk.2) (by rw [e_]; rfl)⟩))).1 k_ h_.symm)); have hxx11 := hccx2 0 _ rfl; (try simp only [show (k162).sz = 5 from rfl, Nat.mul_one, Nat.add_zero] at hxx11); have hfx6 := hfrx2 0; (try simp only [show (k162).sz = 5 from rfl, Nat.mul_one, Nat.add_zero] at hfx6); have hxx12 := hccx2 1 _ rfl; (try simp only [show (k162).sz = 5 from rfl, Nat.mul_one, Nat.add_zero] at hxx12); have hfx7 := hfrx2 1; (try simp only [show (k162).sz = 5 from rfl, Nat.mul_one, Nat.add_zero] at hfx7); have hxx13 := hccx2 2 _ rfl; (try simp only [show (k162).sz = 5 from rfl, Nat.mul_one, Nat.add_zero] at hxx13); have hfx8 := hfrx2 2; (try simp only [show (k162).sz = 5 from rfl, Nat.mul_one, Nat.add_zero] at hfx8); have hxx14 := hccx2 3 _ rfl; (try simp only [show (k162).sz = 5 from rfl, Nat.mul_one, Nat.add_zero] at hxx14); have hfx9 := hfrx2 3; (try simp only [show (k162).sz = 5 from rfl, Nat.mul_one, Nat.add_zero] at hfx9); have hxx15 := hccx2 4 _ rfl; (try simp only [show (k162).sz = 5 from rfl, Nat.mul_one, Nat.add_zero] at hxx15); have hfx10 := hfrx2 4; (try simp only [show (k162).sz = 5 from rfl, Nat.mul_one, Nat.add_zero] at hfx10); clear hclx2 hccx2 hfrx2 hMx2 hokix1 hHx1) | ((with_reducible refine gate_store (t := 162) (p := 21) rfl ?_); refine store_event (t := 162) (p := 21) (v := ?vo_wx2) (w1 := (((((wx1.setCell ⟨gox1, (x4_1 : Int).toNat * 5, none⟩ (.int .i64 t105)).setCell ⟨gox1, (x4_1 : Int).toNat * 5 + 1, none⟩ (.int .i64 t106)).setCell ⟨gox1, (x4_1 : Int).toNat * 5 + 2, none⟩ (.slice Aox1 t107.length cox2)).setCell ⟨gox1, (x4_1 : Int).toNat * 5 + 3, none⟩ (.int .i64 t110)).setCell ⟨gox1, (x4_1 : Int).toNat * 5 + 4, none⟩ (.slice Aox2 t111.length cox3))) ?hg ?ho ?hn ?hr ?_; (case ho => rfl); (case hg => rfl); (case hn => rfl); (case hr => first | (go_simp; done) | (go_simp; rfl)); intro wx2 hw; have hg : wx1.grownBy wx2 (some gox1) := (by rw [hw]; exact HPx1.2); have hp_ : Kd.S k162 162 wx2 w.heap.size (fun _ => True) (.slice (some ⟨gox1, 0, none⟩) x3_1.length cox1) y114 := (by rw [hw, Ny114.out]; exact HPx1.1); clear HPx1; replace HO_y1 := aM (hp_); replace HB := aM ((by rw [hw]; exact below_set (below_set (below_set (below_set (below_set (HB.out) GBx1.out) GBx1.out) GBx1.out) GBx1.out) GBx1.out : Below w.heap.size w wx2)); clear HOx1 HOx2; clear hg hw hp_))
      go_roundg k1
      case measure => have := HKy1.out; omega
      case rel => exact ⟨(y114), (wrap64 (x4_1 + 1)), rS, H', ⟨by have := HKy1.out; omega⟩, ⟨(sX HO_y1.out)⟩, ⟨(hX HB.out)⟩⟩
def laws_toMem.f (k : Nat) (l0_0 : List (S176)) (l0_1 : List (S155)) : Option ((List (S140)) × (List (S162))) := (laws_toWordS.f k l0_0).bind fun t104 => ((laws_toDescS.f k l0_1).bind fun t107 => (some (t104, t107)))
set_option maxHeartbeats 8000000 in
set_option maxRecDepth 100000 in
theorem laws_toMem.calls (k : Nat) (A0_0 : Option Addr) (c0_0 : Nat) (l0_0 : List (S176)) (A0_1 : Option Addr) (c0_1 : Nat) (l0_1 : List (S155)) (r1 : List (S140)) (r2 : List (S162)) (w : World) (hr0_0 : Kd.C k176 w A0_0 l0_0.length l0_0) (hc0_0 : l0_0.length ≤ c0_0) (hr0_1 : Kd.C k155 w A0_1 l0_1.length l0_1) (hc0_1 : l0_1.length ≤ c0_1) (h : laws_toMem.f k l0_0 l0_1 = some (r1, r2)) :
    Calls Tryz.prog 44 #[.agg #[.slice A0_0 l0_0.length c0_0, .slice A0_1 l0_1.length c0_1]] w fun e w' => ∃ v0_ v1_ : Value, e = .returned (.agg #[v0_, v1_]) ∧ Kd.R k140 140 w' w.heap.size (fun _ => True) v0_ r1 ∧ Kd.S k162 162 w' w.heap.size (fun _ => True) v1_ r2 ∧ Below w.heap.size w w' := by
  have hu25 := Tryz.underlying25
  have hu38 := Tryz.underlying38
  have HR0_0 := aM hr0_0
  have HC0_0 := aM hc0_0
  clear hr0_0 hc0_0
  have HR0_1 := aM hr0_1
  have HC0_1 := aM hc0_1
  clear hr0_1 hc0_1
  have HB := aM (Below.refl w.heap.size w)
  have H := h
  unfold laws_toMem.f at H
  clear h
  replace H := bE H; obtain ⟨t104, A2, H⟩ := H
  replace H := bE H; obtain ⟨t107, A3, H⟩ := H
  simp only [Option.some.injEq, Prod.mk.injEq] at H
  obtain ⟨rfl, rfl⟩ := H
  go_enter Tryz.func44, Tryz.ntmps44
  go_wp2_with (first | (refine boxE 1 #[.slice A0_0 l0_0.length c0_0, .slice A0_1 l0_1.length c0_1] 25 ?_; intro gbz1 hg wz1 hbox hb; have BKz1 := aM (hbox); have GWz1 := aG hg HB; have GEz1 := aG hg HB; replace HB := aS HB hb; clear hb hbox hg) | (refine boxE 2 #[.slice none 0 0, .slice none 0 0] 38 ?_; intro gbz2 hg wz2 hbox hb; have BKz2 := aM (hbox); have GWz2 := aG hg HB; have GEz2 := aG hg HB; have NBz1 := aL hg BKz1; have NBz2 := aR hg BKz1; replace BKz1 := aB BKz1 hb; replace HB := aS HB hb; clear hb hbox hg) | (refine boxE 3 #[.slice none 0 0, .slice none 0 0] 38 ?_; intro gbz3 hg wz3 hbox hb; have BKz3 := aM (hbox); have GWz3 := aG hg HB; have GEz3 := aG hg HB; have NBz3 := aL hg BKz1; have NBz4 := aR hg BKz1; have NBz5 := aL hg BKz2; have NBz6 := aR hg BKz2; replace BKz1 := aB BKz1 hb; replace BKz2 := aB BKz2 hb; replace HB := aS HB hb; clear hb hbox hg; have hnbz1 := NBz1.out; have hncz1 := NBz2.out; have hnbz2 := NBz3.out; have hncz2 := NBz4.out; obtain ⟨hczz1, hczz2, hfzz1, hfzz2⟩ := cZ2 BKz1.out) | (refine goesM 97 6 Tryz.func97 #[.slice A0_0 l0_0.length c0_0] ?_; refine (laws_toWordS.calls _ _ _ _ _ _ (cC HR0_0.out HB.out) HC0_0.out A2.out).mono ?_; rintro e wz4 ⟨vz1, rfl, hoz1, hb⟩; refine ⟨_, rfl, ?_⟩; have HOz1 := aM (Kd.R_lower hoz1 (below_size (hX HB.out))); replace BKz1 := aB BKz1 hb; replace BKz2 := aB BKz2 hb; replace BKz3 := aB BKz3 hb; replace HB := aS HB hb; clear hb hoz1; obtain ⟨Aoz1, coz1, eoz1⟩ := Kd.R_slice HOz1.out; subst eoz1; have hnbz3 := NBz6.out; have hncz3 := NBz5.out; obtain ⟨hczz3, hczz4, hfzz3, hfzz4⟩ := cZ2 BKz3.out; obtain ⟨hczz5, hczz6, hfzz5, hfzz6⟩ := cZ2 BKz1.out) | (refine goesM 98 10 Tryz.func98 #[.slice A0_1 l0_1.length c0_1] ?_; refine (laws_toDescS.calls k _ _ l0_1 t107 _ (by exact Kd.C_below HR0_1.out (hX HB.out)) HC0_1.out A3.out).mono ?_; rintro e wz5 ⟨vz2, rfl, hoz1, hb⟩; refine ⟨_, rfl, ?_⟩; have HOz2 := aM (Kd.S_lower hoz1 (below_size (hX HB.out))); replace HOz1 := aM (Kd.R_below (rF HOz1.out BKz3.out) hb); replace BKz1 := aF BKz1 hb; replace BKz2 := aF BKz2 hb; replace BKz3 := aM (blk_below (g := gbz3) (o := .cells #[.slice Aoz1 t104.length coz1, .slice none 0 0] 38 (0, 0)) (bP BKz3.out) hb); replace HB := aS HB hb; clear hb hoz1; obtain ⟨Aoz2, coz2, eoz2⟩ := Kd.S_slice HOz2.out; subst eoz2; obtain ⟨hczz7, hczz8, hfzz7, hfzz8⟩ := cZ2 BKz3.out; obtain ⟨hczz9, hczz10, hfzz9, hfzz10⟩ := cZ2 BKz2.out))
  refine bodyPost_ret (results_cell_row rfl _ _ gbz2 38 #[.slice Aoz1 t104.length coz1, .slice Aoz2 t107.length coz2] (0, 0) _ rfl (bP BKz2.out) Tryz.underlying38 rfl (by kernel_rfl)) rfl ?_
  exact ⟨_, _, rE, (rT (h := by exact Kd.R_mono (Kd.R_far (p := ⟨gbz2, 1, none⟩) (Kd.R_far (p := ⟨gbz2, 0, none⟩) (Kd.R_far (p := ⟨gbz3, 1, none⟩) (Kd.R_types (Kd.R_types HOz1.out BKz3.out (by decide)) BKz2.out (by decide)) (fun _ hk => hk.1.2) (.slice Aoz2 t107.length coz2)) (fun _ hk => hk.2) (.slice Aoz1 t104.length coz1)) (fun _ hk => hk.2) (.slice Aoz2 t107.length coz2)) (fun _ hk => trivial))), by (with_reducible repeat (first | apply Kd.S_alloc | apply Kd.S_drewN | apply Kd.S_drew)); exact Kd.S_mono (Kd.S_far (p := ⟨gbz2, 1, none⟩) (Kd.S_far (p := ⟨gbz2, 0, none⟩) (Kd.S_far (p := ⟨gbz3, 1, none⟩) (Kd.S_types (Kd.S_types HOz2.out BKz3.out (by decide)) BKz2.out (by decide)) (fun _ hk => hk.1.2) (.slice Aoz2 t107.length coz2)) (fun _ hk => hk.2) (.slice Aoz1 t104.length coz1)) (fun _ hk => hk.2) (.slice Aoz2 t107.length coz2)) (fun _ hk => trivial), (hX HB.out)⟩
def laws_toPair.f (a0_0 : Int) (a0_1 : Int) : Option (Int × Int) := some (a0_0, a0_1)
set_option maxHeartbeats 8000000 in
set_option maxRecDepth 100000 in
theorem laws_toPair.calls (a0_0 : Int) (a0_1 : Int) (r1 : Int) (r2 : Int) (w : World) (h : laws_toPair.f a0_0 a0_1 = some (r1, r2)) :
    Calls Tryz.prog 206 #[.agg #[.int .i64 a0_0, .int .i64 a0_1]] w fun e w' => e = .returned (.agg #[.int .i64 r1, .int .i64 r2]) ∧ Below w.heap.size w w' := by
  have hu204 := Tryz.underlying204
  have hu172 := Tryz.underlying172
  have HB := aM (Below.refl w.heap.size w)
  have H := h
  unfold laws_toPair.f at H
  clear h
  simp only [Option.some.injEq, Prod.mk.injEq] at H
  obtain ⟨rfl, rfl⟩ := H
  go_enter Tryz.func206, Tryz.ntmps206
  go_wp2_with (first | (refine boxE 1 #[.int .i64 a0_0, .int .i64 a0_1] 204 ?_; intro gbz1 hg wz1 hbox hb; have BKz1 := aM (hbox); have GWz1 := aG hg HB; have GEz1 := aG hg HB; replace HB := aS HB hb; clear hb hbox hg) | (refine boxE 2 #[.int .i64 0, .int .i64 0] 172 ?_; intro gbz2 hg wz2 hbox hb; have BKz2 := aM (hbox); have GWz2 := aG hg HB; have GEz2 := aG hg HB; have NBz1 := aL hg BKz1; have NBz2 := aR hg BKz1; replace BKz1 := aB BKz1 hb; replace HB := aS HB hb; clear hb hbox hg) | (refine boxE 3 #[.int .i64 0, .int .i64 0] 172 ?_; intro gbz3 hg wz3 hbox hb; have BKz3 := aM (hbox); have GWz3 := aG hg HB; have GEz3 := aG hg HB; have NBz3 := aL hg BKz1; have NBz4 := aR hg BKz1; have NBz5 := aL hg BKz2; have NBz6 := aR hg BKz2; replace BKz1 := aB BKz1 hb; replace BKz2 := aB BKz2 hb; replace HB := aS HB hb; clear hb hbox hg; have hnbz1 := NBz1.out; have hncz1 := NBz2.out; have hnbz2 := NBz3.out; have hncz2 := NBz4.out; obtain ⟨hczz1, hczz2, hfzz1, hfzz2⟩ := cZ2 BKz1.out; have hnbz3 := NBz6.out; have hncz3 := NBz5.out; obtain ⟨hczz3, hczz4, hfzz3, hfzz4⟩ := cZ2 BKz3.out; obtain ⟨hczz5, hczz6, hfzz5, hfzz6⟩ := cZ2 BKz2.out))
  refine bodyPost_ret (results_cell_row rfl _ _ gbz2 172 #[.int .i64 a0_0, .int .i64 a0_1] (0, 0) _ rfl (bP BKz2.out) Tryz.underlying172 rfl (by kernel_rfl)) rfl ?_
  exact ⟨rE, (hX HB.out)⟩
def laws_toPairS.l0 : Nat → List (S204) → List (S172) → Int → Option ((List (S172)))
  | 0, _, _, _ => none
  | k + 1, x0, x3, x4 => if x4 < (x0.length : Int) then (if 0 ≤ x4 then ((laws_toPair.f ((rd_T204 x0 x4).f0) ((rd_T204 x0 x4).f1)).bind fun bt105 => (if x4 < (x3.length : Int) then (laws_toPairS.l0 k x0 (x3.set (x4 : Int).toNat (⟨bt105.1, bt105.2⟩ : S172)) (wrap64 (x4 + 1))) else (none))) else (none)) else (some x3)
def laws_toPairS.f (k : Nat) (l0 : List (S204)) : Option ((List (S172))) := if 0 ≤ (l0.length : Int) then (if ((l0.length : Int) : Int).toNat ≤ 17592186044416 then (laws_toPairS.l0 k l0 (List.replicate ((l0.length : Int) : Int).toNat z172) 0) else (none)) else (none)
set_option maxHeartbeats 8000000 in
set_option maxRecDepth 100000 in
theorem laws_toPairS.calls (k : Nat) (A0 : Option Addr) (c0 : Nat) (l0 : List (S204)) (r : List (S172)) (w : World) (hr0 : Kd.C k204 w A0 l0.length l0) (hc0 : l0.length ≤ c0) (h : laws_toPairS.f k l0 = some r) :
    Calls Tryz.prog 166 #[.slice A0 l0.length c0] w fun e w' => ∃ v0_ : Value, e = .returned (v0_) ∧ Kd.R k172 172 w' w.heap.size (fun _ => True) v0_ r ∧ Below w.heap.size w w' := by
  have hu204 := Tryz.underlying204
  have hu172 := Tryz.underlying172
  have HR0 := aM hr0
  have HC0 := aM hc0
  clear hr0 hc0
  have HB := aM (Below.refl w.heap.size w)
  have H := h
  unfold laws_toPairS.f at H
  clear h
  replace H := ifP H; obtain ⟨c2, H⟩ := H
  have c2b0 := eq_true c2
  have c2b1 := decide_eq_true c2
  clear c2
  replace H := ifP H; obtain ⟨c3, H⟩ := H
  have c3b0 := eq_true c3
  have c3b1 := decide_eq_true c3
  clear c3
  obtain ⟨y101, hy101⟩ : ∃ y_ : List (S172), y_ = (List.replicate ((l0.length : Int) : Int).toNat z172) := ⟨_, rfl⟩
  replace H : (laws_toPairS.l0 k l0 y101 0) = some r := yH H hy101
  have Ny101 := aM hy101
  clear hy101
  have H' := aM H
  clear H
  go_enter Tryz.func166, Tryz.ntmps166
  go_wp2_with (first | ((with_reducible refine gate_dst (N := 7) rfl ?_); refine Kd.R_make k172 _ 172 rfl (N := 7) rfl 94 _ _ rfl (l0.length : Int) rfl rfl Tryz.underlying94 (.agg #[(.int .i64 0), (.int .i64 0)]) 16 info172 rfl (by decide) (by omega) z172 (ok := fun _ => True) (okp := fun _ => True) (k172_mkM _ _ _ z172 ) (fun _ hk => hk) trivial (odA) (Nat.le_trans (Nat.mul_le_mul_right _ (odA : (l0.length : Int).toNat ≤ 17592186044416)) (by omega)) (Below.refl _ _) (Nat.le_refl _) ?_; intro vz1 wz1 hoz1 hb hg_ hnew_; clear hg_ hnew_; (first | rw [← Ny101.out] at hoz1 | (simp only [Int.reduceToNat] at hoz1; rw [← Ny101.out] at hoz1)); have HOz1 := aM (Kd.R_lower hoz1 (below_size (hX HB.out))); replace HB := aS HB hb; clear hb hoz1))
  go_loopg [4] k (fun kq v4 w' => ∃ (x3_1 : List (S172)) (x4_1 : Int), v4 = .int .i64 x4_1 ∧ Aside0 (laws_toPairS.l0 kq l0 x3_1 x4_1 = some r) ∧ Aside0 (kq ≤ k) ∧ Aside0 (Kd.R k172 172 w' w.heap.size (fun _ => True) vz1 x3_1) ∧ Aside0 (Below w.heap.size w w'))
  case atStart => exact ⟨(y101), (0), rS, H', ⟨Nat.le_refl _⟩, ⟨(rX HOz1.out)⟩, ⟨(hX HB.out)⟩⟩
  case round =>
    clear H'
    try clear c2
    try clear c2b0
    try clear c2b1
    try clear p2
    try clear c3
    try clear c3b0
    try clear c3b1
    obtain ⟨x3_1, x4_1, rfl, HA, HKy1, HO_y1, HB⟩ := hrel
    cases gk with
    | zero => exact absurd HA.out (by simp [laws_toPairS.l0])
    | succ k1 =>
      have H := HA.out
      clear HA
      simp only [laws_toPairS.l0] at H
      by_cases c6 : x4_1 < (l0.length : Int)
      case neg =>
        rw [if_neg c6] at H
        have c6b0 := decide_eq_false c6
        clear c6
        obtain rfl := sI H
        go_wp2
        go_ret
        exact ⟨_, rE, (rX HO_y1.out), (hX HB.out)⟩
      rw [if_pos c6] at H
      have c6b0 := decide_eq_true c6
      clear c6
      replace H := ifP H; obtain ⟨c7, H⟩ := H
      have c7b0 := decide_eq_true c7
      clear c7
      replace H := bE H; obtain ⟨⟨t105, t106⟩, A8, H⟩ := H
      try dsimp only at H
      replace H := ifP H; obtain ⟨c9, H⟩ := H
      have c9b0 := decide_eq_true c9
      clear c9
      obtain ⟨y107, hy107⟩ : ∃ y_ : List (S172), y_ = (x3_1.set (x4_1 : Int).toNat (⟨t105, t106⟩ : S172)) := ⟨_, rfl⟩
      replace H : (laws_toPairS.l0 k1 l0 y107 (wrap64 (x4_1 + 1))) = some r := yH H hy107
      have Ny107 := aM hy107
      clear hy107
      have H' := aM H
      clear H
      have px1 : 0 ≤ (x4_1 : Int) := odA
      have qx1 : x4_1 < (l0.length : Int) := odA
      obtain ⟨adx1, ex1, hxx1, hxx2⟩ := at_T204b HR0.out HB.out x4_1 px1 qx1
      cases ex1
      replace px1 := eq_true px1
      replace qx1 := eq_true qx1
      go_wp2_with (first | (refine goesM 206 20 Tryz.func206 #[.agg #[.int .i64 ((rd_T204 l0 x4_1).f0), .int .i64 ((rd_T204 l0 x4_1).f1)]] ?_; refine (laws_toPair.calls _ _ _ _ _ A8.out).mono ?_; rintro e wx1 ⟨rfl, hb⟩; refine ⟨_, rfl, ?_⟩; replace HO_y1 := aQ HO_y1 hb; replace HB := aS HB hb; clear hb; have px2 : 0 ≤ (x4_1 : Int) := odA; have qx2 : (x4_1 : Int) < ((x3_1.length : Int) : Int) := odA; obtain ⟨gox1, cox1, eox1, gbx1, glx1, clx1, HGx1⟩ := Kd.R_form HO_y1.out (by omega); (first | cases eox1 | (injection eox1 with ea_ en_ ec_; (first | subst ea_ | (injection ea_ with ea_; subst ea_)); subst ec_; clear en_)); have GBx1 := aM gbx1; have GGx1 := aM HGx1; clear gbx1 glx1 HGx1; obtain ⟨cex1, hclx1, hMx1, hccx1, hfrx1⟩ := Kd.R_elem HO_y1.out z172 (x4_1 : Int) px2 qx2; obtain rfl := k172_openM hMx1; have hxx3 : wx1.cell? ⟨gox1, (x4_1 : Int).toNat * 2, none⟩ = some (.int .i64 ((rd_T172 x3_1 x4_1).f0)) := hccx1 0 _ rfl; have hxx4 : wx1.cell? ⟨gox1, (x4_1 : Int).toNat * 2 + 1, none⟩ = some (.int .i64 ((rd_T172 x3_1 x4_1).f1)) := hccx1 1 _ rfl; have hfx1 : wx1.frozen? ⟨gox1, (x4_1 : Int).toNat * 2, none⟩ = false := hfrx1 0; have hfx2 : wx1.frozen? ⟨gox1, (x4_1 : Int).toNat * 2 + 1, none⟩ = false := hfrx1 1; clear hclx1 hccx1 hfrx1 hMx1; replace px2 := eq_true px2; replace qx2 := eq_true qx2; have HXx1 := aM (show Kd.R k172 172 wx1 w.heap.size (fun _ => True) (.slice (some ⟨gox1, 0, none⟩) x3_1.length cox1) x3_1 from (rX HO_y1.out)); obtain ⟨cex2, hclx2, hMx2, hccx2, hfrx2⟩ := Kd.R_elem HXx1.out z172 (x4_1 : Int) (odA) (by have h_ : (x4_1 : Int) < ((x3_1.length : Int) : Int) := odA; first | exact h_ | (have e_ := (Kd.R_reads' HO_y1.out).1; omega) | simpa using h_); obtain rfl := k172_openM hMx2; have HPx1 := Kd.R_seg HXx1.out (x4_1 : Int) (odA) (by have h_ : (x4_1 : Int) < ((x3_1.length : Int) : Int) := odA; first | exact h_ | (have e_ := (Kd.R_reads' HO_y1.out).1; omega) | simpa using h_) (seg := [.int .i64 t105, .int .i64 t106]) (j := 0) hclx2 hccx2 (show 2 ≤ 2 from by decide) (x' := (⟨t105, t106⟩ : S172)) (k172_mkM _ _ _ (⟨t105, t106⟩ : S172) ) (fun _ hk => hk); have hxx5 := hccx2 0 _ rfl; (try simp only [show (k172).sz = 2 from rfl, Nat.mul_one, Nat.add_zero] at hxx5); have hfx3 := hfrx2 0; (try simp only [show (k172).sz = 2 from rfl, Nat.mul_one, Nat.add_zero] at hfx3); have hxx6 := hccx2 1 _ rfl; (try simp only [show (k172).sz = 2 from rfl, Nat.mul_one, Nat.add_zero] at hxx6); have hfx4 := hfrx2 1; (try simp only [show (k172).sz = 2 from rfl, Nat.mul_one, Nat.add_zero] at hfx4); clear hclx2 hccx2 hfrx2 hMx2) | ((with_reducible refine gate_store (t := 172) (p := 21) rfl ?_); refine store_event (t := 172) (p := 21) (v := ?vo_wx2) (w1 := ((wx1.setCell ⟨gox1, (x4_1 : Int).toNat * 2, none⟩ (.int .i64 t105)).setCell ⟨gox1, (x4_1 : Int).toNat * 2 + 1, none⟩ (.int .i64 t106))) ?hg ?ho ?hn ?hr ?_; (case ho => rfl); (case hg => rfl); (case hn => rfl); (case hr => first | (go_simp; done) | (go_simp; rfl)); intro wx2 hw; have hg : wx1.grownBy wx2 (some gox1) := (by rw [hw]; exact HPx1.2); have hp_ : Kd.R k172 172 wx2 w.heap.size (fun _ => True) (.slice (some ⟨gox1, 0, none⟩) x3_1.length cox1) y107 := (by rw [hw, Ny107.out]; exact HPx1.1); clear HPx1; replace HO_y1 := aM (hp_); replace HB := aM ((by rw [hw]; exact below_set (below_set (HB.out) GBx1.out) GBx1.out : Below w.heap.size w wx2)); clear hg hw hp_))
      go_roundg k1
      case measure => have := HKy1.out; omega
      case rel => exact ⟨(y107), (wrap64 (x4_1 + 1)), rS, H', ⟨by have := HKy1.out; omega⟩, ⟨(rX HO_y1.out)⟩, ⟨(hX HB.out)⟩⟩
def laws_toHelp.f (a0_0 : Int) (a0_1 : Int) (a0_2 : Int) (a0_3 : Int) : Option (Int × Int × Int × Int) := some (a0_0, a0_1, a0_2, a0_3)
set_option maxHeartbeats 8000000 in
set_option maxRecDepth 100000 in
theorem laws_toHelp.calls (a0_0 : Int) (a0_1 : Int) (a0_2 : Int) (a0_3 : Int) (r1 : Int) (r2 : Int) (r3 : Int) (r4 : Int) (w : World) (h : laws_toHelp.f a0_0 a0_1 a0_2 a0_3 = some (r1, r2, r3, r4)) :
    Calls Tryz.prog 207 #[.agg #[.int .i64 a0_0, .int .i64 a0_1, .int .i64 a0_2, .int .i64 a0_3]] w fun e w' => e = .returned (.agg #[.int .i64 r1, .int .i64 r2, .int .i64 r3, .int .i64 r4]) ∧ Below w.heap.size w w' := by
  have hu206 := Tryz.underlying206
  have hu174 := Tryz.underlying174
  have HB := aM (Below.refl w.heap.size w)
  have H := h
  unfold laws_toHelp.f at H
  clear h
  simp only [Option.some.injEq, Prod.mk.injEq] at H
  obtain ⟨rfl, rfl, rfl, rfl⟩ := H
  go_enter Tryz.func207, Tryz.ntmps207
  go_wp2_with (first | (refine boxE 1 #[.int .i64 a0_0, .int .i64 a0_1, .int .i64 a0_2, .int .i64 a0_3] 206 ?_; intro gbz1 hg wz1 hbox hb; have BKz1 := aM (hbox); have GWz1 := aG hg HB; have GEz1 := aG hg HB; replace HB := aS HB hb; clear hb hbox hg) | (refine boxE 2 #[.int .i64 0, .int .i64 0, .int .i64 0, .int .i64 0] 174 ?_; intro gbz2 hg wz2 hbox hb; have BKz2 := aM (hbox); have GWz2 := aG hg HB; have GEz2 := aG hg HB; have NBz1 := aL hg BKz1; have NBz2 := aR hg BKz1; replace BKz1 := aB BKz1 hb; replace HB := aS HB hb; clear hb hbox hg) | (refine boxE 3 #[.int .i64 0, .int .i64 0, .int .i64 0, .int .i64 0] 174 ?_; intro gbz3 hg wz3 hbox hb; have BKz3 := aM (hbox); have GWz3 := aG hg HB; have GEz3 := aG hg HB; have NBz3 := aL hg BKz1; have NBz4 := aR hg BKz1; have NBz5 := aL hg BKz2; have NBz6 := aR hg BKz2; replace BKz1 := aB BKz1 hb; replace BKz2 := aB BKz2 hb; replace HB := aS HB hb; clear hb hbox hg; have hnbz1 := NBz1.out; have hncz1 := NBz2.out; have hnbz2 := NBz3.out; have hncz2 := NBz4.out; obtain ⟨hczz1, hczz2, hczz3, hczz4, hfzz1, hfzz2, hfzz3, hfzz4⟩ := cZ4 BKz1.out; have hnbz3 := NBz6.out; have hncz3 := NBz5.out; obtain ⟨hczz5, hczz6, hczz7, hczz8, hfzz5, hfzz6, hfzz7, hfzz8⟩ := cZ4 BKz3.out; obtain ⟨hczz9, hczz10, hczz11, hczz12, hfzz9, hfzz10, hfzz11, hfzz12⟩ := cZ4 BKz2.out))
  refine bodyPost_ret (results_cell_row rfl _ _ gbz2 174 #[.int .i64 a0_0, .int .i64 a0_1, .int .i64 a0_2, .int .i64 a0_3] (0, 0) _ rfl (bP BKz2.out) Tryz.underlying174 rfl (by kernel_rfl)) rfl ?_
  exact ⟨rE, (hX HB.out)⟩
def laws_toHelpS.l0 : Nat → List (S206) → List (S174) → Int → Option ((List (S174)))
  | 0, _, _, _ => none
  | k + 1, x0, x3, x4 => if x4 < (x0.length : Int) then (if 0 ≤ x4 then ((laws_toHelp.f ((rd_T206 x0 x4).f0) ((rd_T206 x0 x4).f1) ((rd_T206 x0 x4).f2) ((rd_T206 x0 x4).f3)).bind fun bt105 => (if x4 < (x3.length : Int) then (laws_toHelpS.l0 k x0 (x3.set (x4 : Int).toNat (⟨bt105.1, bt105.2.1, bt105.2.2.1, bt105.2.2.2⟩ : S174)) (wrap64 (x4 + 1))) else (none))) else (none)) else (some x3)
def laws_toHelpS.f (k : Nat) (l0 : List (S206)) : Option ((List (S174))) := if 0 ≤ (l0.length : Int) then (if ((l0.length : Int) : Int).toNat ≤ 8796093022208 then (laws_toHelpS.l0 k l0 (List.replicate ((l0.length : Int) : Int).toNat z174) 0) else (none)) else (none)
set_option maxHeartbeats 8000000 in
set_option maxRecDepth 100000 in
theorem laws_toHelpS.calls (k : Nat) (A0 : Option Addr) (c0 : Nat) (l0 : List (S206)) (r : List (S174)) (w : World) (hr0 : Kd.C k206 w A0 l0.length l0) (hc0 : l0.length ≤ c0) (h : laws_toHelpS.f k l0 = some r) :
    Calls Tryz.prog 167 #[.slice A0 l0.length c0] w fun e w' => ∃ v0_ : Value, e = .returned (v0_) ∧ Kd.R k174 174 w' w.heap.size (fun _ => True) v0_ r ∧ Below w.heap.size w w' := by
  have hu206 := Tryz.underlying206
  have hu174 := Tryz.underlying174
  have HR0 := aM hr0
  have HC0 := aM hc0
  clear hr0 hc0
  have HB := aM (Below.refl w.heap.size w)
  have H := h
  unfold laws_toHelpS.f at H
  clear h
  replace H := ifP H; obtain ⟨c2, H⟩ := H
  have c2b0 := eq_true c2
  have c2b1 := decide_eq_true c2
  clear c2
  replace H := ifP H; obtain ⟨c3, H⟩ := H
  have c3b0 := eq_true c3
  have c3b1 := decide_eq_true c3
  clear c3
  obtain ⟨y101, hy101⟩ : ∃ y_ : List (S174), y_ = (List.replicate ((l0.length : Int) : Int).toNat z174) := ⟨_, rfl⟩
  replace H : (laws_toHelpS.l0 k l0 y101 0) = some r := yH H hy101
  have Ny101 := aM hy101
  clear hy101
  have H' := aM H
  clear H
  go_enter Tryz.func167, Tryz.ntmps167
  go_wp2_with (first | ((with_reducible refine gate_dst (N := 7) rfl ?_); refine Kd.R_make k174 _ 174 rfl (N := 7) rfl 95 _ _ rfl (l0.length : Int) rfl rfl Tryz.underlying95 (.agg #[(.int .i64 0), (.int .i64 0), (.int .i64 0), (.int .i64 0)]) 32 info174 rfl (by decide) (by omega) z174 (ok := fun _ => True) (okp := fun _ => True) (k174_mkM _ _ _ z174 ) (fun _ hk => hk) trivial (odA) (Nat.le_trans (Nat.mul_le_mul_right _ (odA : (l0.length : Int).toNat ≤ 8796093022208)) (by omega)) (Below.refl _ _) (Nat.le_refl _) ?_; intro vz1 wz1 hoz1 hb hg_ hnew_; clear hg_ hnew_; (first | rw [← Ny101.out] at hoz1 | (simp only [Int.reduceToNat] at hoz1; rw [← Ny101.out] at hoz1)); have HOz1 := aM (Kd.R_lower hoz1 (below_size (hX HB.out))); replace HB := aS HB hb; clear hb hoz1))
  go_loopg [4] k (fun kq v4 w' => ∃ (x3_1 : List (S174)) (x4_1 : Int), v4 = .int .i64 x4_1 ∧ Aside0 (laws_toHelpS.l0 kq l0 x3_1 x4_1 = some r) ∧ Aside0 (kq ≤ k) ∧ Aside0 (Kd.R k174 174 w' w.heap.size (fun _ => True) vz1 x3_1) ∧ Aside0 (Below w.heap.size w w'))
  case atStart => exact ⟨(y101), (0), rS, H', ⟨Nat.le_refl _⟩, ⟨(rX HOz1.out)⟩, ⟨(hX HB.out)⟩⟩
  case round =>
    clear H'
    try clear c2
    try clear c2b0
    try clear c2b1
    try clear p2
    try clear c3
    try clear c3b0
    try clear c3b1
    obtain ⟨x3_1, x4_1, rfl, HA, HKy1, HO_y1, HB⟩ := hrel
    cases gk with
    | zero => exact absurd HA.out (by simp [laws_toHelpS.l0])
    | succ k1 =>
      have H := HA.out
      clear HA
      simp only [laws_toHelpS.l0] at H
      by_cases c6 : x4_1 < (l0.length : Int)
      case neg =>
        rw [if_neg c6] at H
        have c6b0 := decide_eq_false c6
        clear c6
        obtain rfl := sI H
        go_wp2
        go_ret
        exact ⟨_, rE, (rX HO_y1.out), (hX HB.out)⟩
      rw [if_pos c6] at H
      have c6b0 := decide_eq_true c6
      clear c6
      replace H := ifP H; obtain ⟨c7, H⟩ := H
      have c7b0 := decide_eq_true c7
      clear c7
      replace H := bE H; obtain ⟨⟨t105, t106, t107, t108⟩, A8, H⟩ := H
      try dsimp only at H
      replace H := ifP H; obtain ⟨c9, H⟩ := H
      have c9b0 := decide_eq_true c9
      clear c9
      obtain ⟨y109, hy109⟩ : ∃ y_ : List (S174), y_ = (x3_1.set (x4_1 : Int).toNat (⟨t105, t106, t107, t108⟩ : S174)) := ⟨_, rfl⟩
      replace H : (laws_toHelpS.l0 k1 l0 y109 (wrap64 (x4_1 + 1))) = some r := yH H hy109
      have Ny109 := aM hy109
      clear hy109
      have H' := aM H
      clear H
      have px1 : 0 ≤ (x4_1 : Int) := odA
      have qx1 : x4_1 < (l0.length : Int) := odA
      obtain ⟨adx1, ex1, hxx1, hxx2, hxx3, hxx4⟩ := at_T206b HR0.out HB.out x4_1 px1 qx1
      cases ex1
      replace px1 := eq_true px1
      replace qx1 := eq_true qx1
      go_wp2_with (first | (refine goesM 207 20 Tryz.func207 #[.agg #[.int .i64 ((rd_T206 l0 x4_1).f0), .int .i64 ((rd_T206 l0 x4_1).f1), .int .i64 ((rd_T206 l0 x4_1).f2), .int .i64 ((rd_T206 l0 x4_1).f3)]] ?_; refine (laws_toHelp.calls _ _ _ _ _ _ _ _ _ A8.out).mono ?_; rintro e wx1 ⟨rfl, hb⟩; refine ⟨_, rfl, ?_⟩; replace HO_y1 := aQ HO_y1 hb; replace HB := aS HB hb; clear hb; have px2 : 0 ≤ (x4_1 : Int) := odA; have qx2 : (x4_1 : Int) < ((x3_1.length : Int) : Int) := odA; obtain ⟨gox1, cox1, eox1, gbx1, glx1, clx1, HGx1⟩ := Kd.R_form HO_y1.out (by omega); (first | cases eox1 | (injection eox1 with ea_ en_ ec_; (first | subst ea_ | (injection ea_ with ea_; subst ea_)); subst ec_; clear en_)); have GBx1 := aM gbx1; have GGx1 := aM HGx1; clear gbx1 glx1 HGx1; obtain ⟨cex1, hclx1, hMx1, hccx1, hfrx1⟩ := Kd.R_elem HO_y1.out z174 (x4_1 : Int) px2 qx2; obtain rfl := k174_openM hMx1; have hxx5 : wx1.cell? ⟨gox1, (x4_1 : Int).toNat * 4, none⟩ = some (.int .i64 ((rd_T174 x3_1 x4_1).f0)) := hccx1 0 _ rfl; have hxx6 : wx1.cell? ⟨gox1, (x4_1 : Int).toNat * 4 + 1, none⟩ = some (.int .i64 ((rd_T174 x3_1 x4_1).f1)) := hccx1 1 _ rfl; have hxx7 : wx1.cell? ⟨gox1, (x4_1 : Int).toNat * 4 + 2, none⟩ = some (.int .i64 ((rd_T174 x3_1 x4_1).f2)) := hccx1 2 _ rfl; have hxx8 : wx1.cell? ⟨gox1, (x4_1 : Int).toNat * 4 + 3, none⟩ = some (.int .i64 ((rd_T174 x3_1 x4_1).f3)) := hccx1 3 _ rfl; have hfx1 : wx1.frozen? ⟨gox1, (x4_1 : Int).toNat * 4, none⟩ = false := hfrx1 0; have hfx2 : wx1.frozen? ⟨gox1, (x4_1 : Int).toNat * 4 + 1, none⟩ = false := hfrx1 1; have hfx3 : wx1.frozen? ⟨gox1, (x4_1 : Int).toNat * 4 + 2, none⟩ = false := hfrx1 2; have hfx4 : wx1.frozen? ⟨gox1, (x4_1 : Int).toNat * 4 + 3, none⟩ = false := hfrx1 3; clear hclx1 hccx1 hfrx1 hMx1; replace px2 := eq_true px2; replace qx2 := eq_true qx2; have HXx1 := aM (show Kd.R k174 174 wx1 w.heap.size (fun _ => True) (.slice (some ⟨gox1, 0, none⟩) x3_1.length cox1) x3_1 from (rX HO_y1.out)); obtain ⟨cex2, hclx2, hMx2, hccx2, hfrx2⟩ := Kd.R_elem HXx1.out z174 (x4_1 : Int) (odA) (by have h_ : (x4_1 : Int) < ((x3_1.length : Int) : Int) := odA; first | exact h_ | (have e_ := (Kd.R_reads' HO_y1.out).1; omega) | simpa using h_); obtain rfl := k174_openM hMx2; have HPx1 := Kd.R_seg HXx1.out (x4_1 : Int) (odA) (by have h_ : (x4_1 : Int) < ((x3_1.length : Int) : Int) := odA; first | exact h_ | (have e_ := (Kd.R_reads' HO_y1.out).1; omega) | simpa using h_) (seg := [.int .i64 t105, .int .i64 t106, .int .i64 t107, .int .i64 t108]) (j := 0) hclx2 hccx2 (show 4 ≤ 4 from by decide) (x' := (⟨t105, t106, t107, t108⟩ : S174)) (k174_mkM _ _ _ (⟨t105, t106, t107, t108⟩ : S174) ) (fun _ hk => hk); have hxx9 := hccx2 0 _ rfl; (try simp only [show (k174).sz = 4 from rfl, Nat.mul_one, Nat.add_zero] at hxx9); have hfx5 := hfrx2 0; (try simp only [show (k174).sz = 4 from rfl, Nat.mul_one, Nat.add_zero] at hfx5); have hxx10 := hccx2 1 _ rfl; (try simp only [show (k174).sz = 4 from rfl, Nat.mul_one, Nat.add_zero] at hxx10); have hfx6 := hfrx2 1; (try simp only [show (k174).sz = 4 from rfl, Nat.mul_one, Nat.add_zero] at hfx6); have hxx11 := hccx2 2 _ rfl; (try simp only [show (k174).sz = 4 from rfl, Nat.mul_one, Nat.add_zero] at hxx11); have hfx7 := hfrx2 2; (try simp only [show (k174).sz = 4 from rfl, Nat.mul_one, Nat.add_zero] at hfx7); have hxx12 := hccx2 3 _ rfl; (try simp only [show (k174).sz = 4 from rfl, Nat.mul_one, Nat.add_zero] at hxx12); have hfx8 := hfrx2 3; (try simp only [show (k174).sz = 4 from rfl, Nat.mul_one, Nat.add_zero] at hfx8); clear hclx2 hccx2 hfrx2 hMx2) | ((with_reducible refine gate_store (t := 174) (p := 21) rfl ?_); refine store_event (t := 174) (p := 21) (v := ?vo_wx2) (w1 := ((((wx1.setCell ⟨gox1, (x4_1 : Int).toNat * 4, none⟩ (.int .i64 t105)).setCell ⟨gox1, (x4_1 : Int).toNat * 4 + 1, none⟩ (.int .i64 t106)).setCell ⟨gox1, (x4_1 : Int).toNat * 4 + 2, none⟩ (.int .i64 t107)).setCell ⟨gox1, (x4_1 : Int).toNat * 4 + 3, none⟩ (.int .i64 t108))) ?hg ?ho ?hn ?hr ?_; (case ho => rfl); (case hg => rfl); (case hn => rfl); (case hr => first | (go_simp; done) | (go_simp; rfl)); intro wx2 hw; have hg : wx1.grownBy wx2 (some gox1) := (by rw [hw]; exact HPx1.2); have hp_ : Kd.R k174 174 wx2 w.heap.size (fun _ => True) (.slice (some ⟨gox1, 0, none⟩) x3_1.length cox1) y109 := (by rw [hw, Ny109.out]; exact HPx1.1); clear HPx1; replace HO_y1 := aM (hp_); replace HB := aM ((by rw [hw]; exact below_set (below_set (below_set (below_set (HB.out) GBx1.out) GBx1.out) GBx1.out) GBx1.out : Below w.heap.size w wx2)); clear hg hw hp_))
      go_roundg k1
      case measure => have := HKy1.out; omega
      case rel => exact ⟨(y109), (wrap64 (x4_1 + 1)), rS, H', ⟨by have := HKy1.out; omega⟩, ⟨(rX HO_y1.out)⟩, ⟨(hX HB.out)⟩⟩
def laws_toOp.f (a0_0 : Int) (a0_1 : Int) (a0_2 : Int) : Option (Int × Int × Int) := some (a0_0, a0_1, a0_2)
set_option maxHeartbeats 8000000 in
set_option maxRecDepth 100000 in
theorem laws_toOp.calls (a0_0 : Int) (a0_1 : Int) (a0_2 : Int) (r1 : Int) (r2 : Int) (r3 : Int) (w : World) (h : laws_toOp.f a0_0 a0_1 a0_2 = some (r1, r2, r3)) :
    Calls Tryz.prog 126 #[.agg #[.int .i64 a0_0, .int .i64 a0_1, .int .i64 a0_2]] w fun e w' => e = .returned (.agg #[.int .i64 r1, .int .i64 r2, .int .i64 r3]) ∧ Below w.heap.size w w' := by
  have hu116 := Tryz.underlying116
  have hu69 := Tryz.underlying69
  have HB := aM (Below.refl w.heap.size w)
  have H := h
  unfold laws_toOp.f at H
  clear h
  simp only [Option.some.injEq, Prod.mk.injEq] at H
  obtain ⟨rfl, rfl, rfl⟩ := H
  go_enter Tryz.func126, Tryz.ntmps126
  go_wp2_with (first | (refine boxE 1 #[.int .i64 a0_0, .int .i64 a0_1, .int .i64 a0_2] 116 ?_; intro gbz1 hg wz1 hbox hb; have BKz1 := aM (hbox); have GWz1 := aG hg HB; have GEz1 := aG hg HB; replace HB := aS HB hb; clear hb hbox hg) | (refine boxE 2 #[.int .i64 0, .int .i64 0, .int .i64 0] 69 ?_; intro gbz2 hg wz2 hbox hb; have BKz2 := aM (hbox); have GWz2 := aG hg HB; have GEz2 := aG hg HB; have NBz1 := aL hg BKz1; have NBz2 := aR hg BKz1; replace BKz1 := aB BKz1 hb; replace HB := aS HB hb; clear hb hbox hg) | (refine boxE 3 #[.int .i64 0, .int .i64 0, .int .i64 0] 69 ?_; intro gbz3 hg wz3 hbox hb; have BKz3 := aM (hbox); have GWz3 := aG hg HB; have GEz3 := aG hg HB; have NBz3 := aL hg BKz1; have NBz4 := aR hg BKz1; have NBz5 := aL hg BKz2; have NBz6 := aR hg BKz2; replace BKz1 := aB BKz1 hb; replace BKz2 := aB BKz2 hb; replace HB := aS HB hb; clear hb hbox hg; have hnbz1 := NBz1.out; have hncz1 := NBz2.out; have hnbz2 := NBz3.out; have hncz2 := NBz4.out; obtain ⟨hczz1, hczz2, hczz3, hfzz1, hfzz2, hfzz3⟩ := cZ3 BKz1.out; have hnbz3 := NBz6.out; have hncz3 := NBz5.out; obtain ⟨hczz4, hczz5, hczz6, hfzz4, hfzz5, hfzz6⟩ := cZ3 BKz3.out; obtain ⟨hczz7, hczz8, hczz9, hfzz7, hfzz8, hfzz9⟩ := cZ3 BKz2.out))
  refine bodyPost_ret (results_cell_row rfl _ _ gbz2 69 #[.int .i64 a0_0, .int .i64 a0_1, .int .i64 a0_2] (0, 0) _ rfl (bP BKz2.out) Tryz.underlying69 rfl (by kernel_rfl)) rfl ?_
  exact ⟨rE, (hX HB.out)⟩
def laws_toOpS.l0 : Nat → List (S116) → List (S69) → Int → Option ((List (S69)))
  | 0, _, _, _ => none
  | k + 1, x0, x3, x4 => if x4 < (x0.length : Int) then (if 0 ≤ x4 then ((laws_toOp.f ((rd_T116 x0 x4).f0) ((rd_T116 x0 x4).f1) ((rd_T116 x0 x4).f2)).bind fun bt105 => (if x4 < (x3.length : Int) then (laws_toOpS.l0 k x0 (x3.set (x4 : Int).toNat (⟨bt105.1, bt105.2.1, bt105.2.2⟩ : S69)) (wrap64 (x4 + 1))) else (none))) else (none)) else (some x3)
def laws_toOpS.f (k : Nat) (l0 : List (S116)) : Option ((List (S69))) := if 0 ≤ (l0.length : Int) then (if ((l0.length : Int) : Int).toNat ≤ 11728124029610 then (laws_toOpS.l0 k l0 (List.replicate ((l0.length : Int) : Int).toNat z69) 0) else (none)) else (none)
set_option maxHeartbeats 8000000 in
set_option maxRecDepth 100000 in
theorem laws_toOpS.calls (k : Nat) (A0 : Option Addr) (c0 : Nat) (l0 : List (S116)) (r : List (S69)) (w : World) (hr0 : Kd.C k116 w A0 l0.length l0) (hc0 : l0.length ≤ c0) (h : laws_toOpS.f k l0 = some r) :
    Calls Tryz.prog 66 #[.slice A0 l0.length c0] w fun e w' => ∃ v0_ : Value, e = .returned (v0_) ∧ Kd.R k69 69 w' w.heap.size (fun _ => True) v0_ r ∧ Below w.heap.size w w' := by
  have hu116 := Tryz.underlying116
  have hu69 := Tryz.underlying69
  have HR0 := aM hr0
  have HC0 := aM hc0
  clear hr0 hc0
  have HB := aM (Below.refl w.heap.size w)
  have H := h
  unfold laws_toOpS.f at H
  clear h
  replace H := ifP H; obtain ⟨c2, H⟩ := H
  have c2b0 := eq_true c2
  have c2b1 := decide_eq_true c2
  clear c2
  replace H := ifP H; obtain ⟨c3, H⟩ := H
  have c3b0 := eq_true c3
  have c3b1 := decide_eq_true c3
  clear c3
  obtain ⟨y101, hy101⟩ : ∃ y_ : List (S69), y_ = (List.replicate ((l0.length : Int) : Int).toNat z69) := ⟨_, rfl⟩
  replace H : (laws_toOpS.l0 k l0 y101 0) = some r := yH H hy101
  have Ny101 := aM hy101
  clear hy101
  have H' := aM H
  clear H
  go_enter Tryz.func66, Tryz.ntmps66
  go_wp2_with (first | ((with_reducible refine gate_dst (N := 7) rfl ?_); refine Kd.R_make k69 _ 69 rfl (N := 7) rfl 93 _ _ rfl (l0.length : Int) rfl rfl Tryz.underlying93 (.agg #[(.int .i64 0), (.int .i64 0), (.int .i64 0)]) 24 info69 rfl (by decide) (by omega) z69 (ok := fun _ => True) (okp := fun _ => True) (k69_mkM _ _ _ z69 ) (fun _ hk => hk) trivial (odA) (Nat.le_trans (Nat.mul_le_mul_right _ (odA : (l0.length : Int).toNat ≤ 11728124029610)) (by omega)) (Below.refl _ _) (Nat.le_refl _) ?_; intro vz1 wz1 hoz1 hb hg_ hnew_; clear hg_ hnew_; (first | rw [← Ny101.out] at hoz1 | (simp only [Int.reduceToNat] at hoz1; rw [← Ny101.out] at hoz1)); have HOz1 := aM (Kd.R_lower hoz1 (below_size (hX HB.out))); replace HB := aS HB hb; clear hb hoz1))
  go_loopg [4] k (fun kq v4 w' => ∃ (x3_1 : List (S69)) (x4_1 : Int), v4 = .int .i64 x4_1 ∧ Aside0 (laws_toOpS.l0 kq l0 x3_1 x4_1 = some r) ∧ Aside0 (kq ≤ k) ∧ Aside0 (Kd.R k69 69 w' w.heap.size (fun _ => True) vz1 x3_1) ∧ Aside0 (Below w.heap.size w w'))
  case atStart => exact ⟨(y101), (0), rS, H', ⟨Nat.le_refl _⟩, ⟨(rX HOz1.out)⟩, ⟨(hX HB.out)⟩⟩
  case round =>
    clear H'
    try clear c2
    try clear c2b0
    try clear c2b1
    try clear p2
    try clear c3
    try clear c3b0
    try clear c3b1
    obtain ⟨x3_1, x4_1, rfl, HA, HKy1, HO_y1, HB⟩ := hrel
    cases gk with
    | zero => exact absurd HA.out (by simp [laws_toOpS.l0])
    | succ k1 =>
      have H := HA.out
      clear HA
      simp only [laws_toOpS.l0] at H
      by_cases c6 : x4_1 < (l0.length : Int)
      case neg =>
        rw [if_neg c6] at H
        have c6b0 := decide_eq_false c6
        clear c6
        obtain rfl := sI H
        go_wp2
        go_ret
        exact ⟨_, rE, (rX HO_y1.out), (hX HB.out)⟩
      rw [if_pos c6] at H
      have c6b0 := decide_eq_true c6
      clear c6
      replace H := ifP H; obtain ⟨c7, H⟩ := H
      have c7b0 := decide_eq_true c7
      clear c7
      replace H := bE H; obtain ⟨⟨t105, t106, t107⟩, A8, H⟩ := H
      try dsimp only at H
      replace H := ifP H; obtain ⟨c9, H⟩ := H
      have c9b0 := decide_eq_true c9
      clear c9
      obtain ⟨y108, hy108⟩ : ∃ y_ : List (S69), y_ = (x3_1.set (x4_1 : Int).toNat (⟨t105, t106, t107⟩ : S69)) := ⟨_, rfl⟩
      replace H : (laws_toOpS.l0 k1 l0 y108 (wrap64 (x4_1 + 1))) = some r := yH H hy108
      have Ny108 := aM hy108
      clear hy108
      have H' := aM H
      clear H
      have px1 : 0 ≤ (x4_1 : Int) := odA
      have qx1 : x4_1 < (l0.length : Int) := odA
      obtain ⟨adx1, ex1, hxx1, hxx2, hxx3⟩ := at_T116b HR0.out HB.out x4_1 px1 qx1
      cases ex1
      replace px1 := eq_true px1
      replace qx1 := eq_true qx1
      go_wp2_with (first | (refine goesM 126 20 Tryz.func126 #[.agg #[.int .i64 ((rd_T116 l0 x4_1).f0), .int .i64 ((rd_T116 l0 x4_1).f1), .int .i64 ((rd_T116 l0 x4_1).f2)]] ?_; refine (laws_toOp.calls _ _ _ _ _ _ _ A8.out).mono ?_; rintro e wx1 ⟨rfl, hb⟩; refine ⟨_, rfl, ?_⟩; replace HO_y1 := aQ HO_y1 hb; replace HB := aS HB hb; clear hb; have px2 : 0 ≤ (x4_1 : Int) := odA; have qx2 : (x4_1 : Int) < ((x3_1.length : Int) : Int) := odA; obtain ⟨gox1, cox1, eox1, gbx1, glx1, clx1, HGx1⟩ := Kd.R_form HO_y1.out (by omega); (first | cases eox1 | (injection eox1 with ea_ en_ ec_; (first | subst ea_ | (injection ea_ with ea_; subst ea_)); subst ec_; clear en_)); have GBx1 := aM gbx1; have GGx1 := aM HGx1; clear gbx1 glx1 HGx1; obtain ⟨cex1, hclx1, hMx1, hccx1, hfrx1⟩ := Kd.R_elem HO_y1.out z69 (x4_1 : Int) px2 qx2; obtain rfl := k69_openM hMx1; have hxx4 : wx1.cell? ⟨gox1, (x4_1 : Int).toNat * 3, none⟩ = some (.int .i64 ((rd_T69 x3_1 x4_1).f0)) := hccx1 0 _ rfl; have hxx5 : wx1.cell? ⟨gox1, (x4_1 : Int).toNat * 3 + 1, none⟩ = some (.int .i64 ((rd_T69 x3_1 x4_1).f1)) := hccx1 1 _ rfl; have hxx6 : wx1.cell? ⟨gox1, (x4_1 : Int).toNat * 3 + 2, none⟩ = some (.int .i64 ((rd_T69 x3_1 x4_1).f2)) := hccx1 2 _ rfl; have hfx1 : wx1.frozen? ⟨gox1, (x4_1 : Int).toNat * 3, none⟩ = false := hfrx1 0; have hfx2 : wx1.frozen? ⟨gox1, (x4_1 : Int).toNat * 3 + 1, none⟩ = false := hfrx1 1; have hfx3 : wx1.frozen? ⟨gox1, (x4_1 : Int).toNat * 3 + 2, none⟩ = false := hfrx1 2; clear hclx1 hccx1 hfrx1 hMx1; replace px2 := eq_true px2; replace qx2 := eq_true qx2; have HXx1 := aM (show Kd.R k69 69 wx1 w.heap.size (fun _ => True) (.slice (some ⟨gox1, 0, none⟩) x3_1.length cox1) x3_1 from (rX HO_y1.out)); obtain ⟨cex2, hclx2, hMx2, hccx2, hfrx2⟩ := Kd.R_elem HXx1.out z69 (x4_1 : Int) (odA) (by have h_ : (x4_1 : Int) < ((x3_1.length : Int) : Int) := odA; first | exact h_ | (have e_ := (Kd.R_reads' HO_y1.out).1; omega) | simpa using h_); obtain rfl := k69_openM hMx2; have HPx1 := Kd.R_seg HXx1.out (x4_1 : Int) (odA) (by have h_ : (x4_1 : Int) < ((x3_1.length : Int) : Int) := odA; first | exact h_ | (have e_ := (Kd.R_reads' HO_y1.out).1; omega) | simpa using h_) (seg := [.int .i64 t105, .int .i64 t106, .int .i64 t107]) (j := 0) hclx2 hccx2 (show 3 ≤ 3 from by decide) (x' := (⟨t105, t106, t107⟩ : S69)) (k69_mkM _ _ _ (⟨t105, t106, t107⟩ : S69) ) (fun _ hk => hk); have hxx7 := hccx2 0 _ rfl; (try simp only [show (k69).sz = 3 from rfl, Nat.mul_one, Nat.add_zero] at hxx7); have hfx4 := hfrx2 0; (try simp only [show (k69).sz = 3 from rfl, Nat.mul_one, Nat.add_zero] at hfx4); have hxx8 := hccx2 1 _ rfl; (try simp only [show (k69).sz = 3 from rfl, Nat.mul_one, Nat.add_zero] at hxx8); have hfx5 := hfrx2 1; (try simp only [show (k69).sz = 3 from rfl, Nat.mul_one, Nat.add_zero] at hfx5); have hxx9 := hccx2 2 _ rfl; (try simp only [show (k69).sz = 3 from rfl, Nat.mul_one, Nat.add_zero] at hxx9); have hfx6 := hfrx2 2; (try simp only [show (k69).sz = 3 from rfl, Nat.mul_one, Nat.add_zero] at hfx6); clear hclx2 hccx2 hfrx2 hMx2) | ((with_reducible refine gate_store (t := 69) (p := 21) rfl ?_); refine store_event (t := 69) (p := 21) (v := ?vo_wx2) (w1 := (((wx1.setCell ⟨gox1, (x4_1 : Int).toNat * 3, none⟩ (.int .i64 t105)).setCell ⟨gox1, (x4_1 : Int).toNat * 3 + 1, none⟩ (.int .i64 t106)).setCell ⟨gox1, (x4_1 : Int).toNat * 3 + 2, none⟩ (.int .i64 t107))) ?hg ?ho ?hn ?hr ?_; (case ho => rfl); (case hg => rfl); (case hn => rfl); (case hr => first | (go_simp; done) | (go_simp; rfl)); intro wx2 hw; have hg : wx1.grownBy wx2 (some gox1) := (by rw [hw]; exact HPx1.2); have hp_ : Kd.R k69 69 wx2 w.heap.size (fun _ => True) (.slice (some ⟨gox1, 0, none⟩) x3_1.length cox1) y108 := (by rw [hw, Ny108.out]; exact HPx1.1); clear HPx1; replace HO_y1 := aM (hp_); replace HB := aM ((by rw [hw]; exact below_set (below_set (below_set (HB.out) GBx1.out) GBx1.out) GBx1.out : Below w.heap.size w wx2)); clear hg hw hp_))
      go_roundg k1
      case measure => have := HKy1.out; omega
      case rel => exact ⟨(y108), (wrap64 (x4_1 + 1)), rS, H', ⟨by have := HKy1.out; omega⟩, ⟨(rX HO_y1.out)⟩, ⟨(hX HB.out)⟩⟩
def laws_toThread.f (k : Nat) (l0_0 : List (S116)) (a0_1 : Int) (a0_2 : Bool) (l0_3 : List (S204)) (l0_4 : List (S206)) : Option ((List (S69)) × Int × Bool × (List (S172)) × (List (S174))) := (laws_toOpS.f k l0_0).bind fun t104 => ((laws_toPairS.f k l0_3).bind fun t107 => ((laws_toHelpS.f k l0_4).bind fun t110 => (some (t104, a0_1, a0_2, t107, t110))))
set_option maxHeartbeats 8000000 in
set_option maxRecDepth 100000 in
theorem laws_toThread.calls (k : Nat) (A0_0 : Option Addr) (c0_0 : Nat) (l0_0 : List (S116)) (a0_1 : Int) (a0_2 : Bool) (A0_3 : Option Addr) (c0_3 : Nat) (l0_3 : List (S204)) (A0_4 : Option Addr) (c0_4 : Nat) (l0_4 : List (S206)) (r1 : List (S69)) (r2 : Int) (r3 : Bool) (r4 : List (S172)) (r5 : List (S174)) (w : World) (hr0_0 : Kd.C k116 w A0_0 l0_0.length l0_0) (hc0_0 : l0_0.length ≤ c0_0) (hr0_3 : Kd.C k204 w A0_3 l0_3.length l0_3) (hc0_3 : l0_3.length ≤ c0_3) (hr0_4 : Kd.C k206 w A0_4 l0_4.length l0_4) (hc0_4 : l0_4.length ≤ c0_4) (h : laws_toThread.f k l0_0 a0_1 a0_2 l0_3 l0_4 = some (r1, r2, r3, r4, r5)) :
    Calls Tryz.prog 99 #[.agg #[.slice A0_0 l0_0.length c0_0, .int .i64 a0_1, .bool a0_2, .slice A0_3 l0_3.length c0_3, .slice A0_4 l0_4.length c0_4]] w fun e w' => ∃ v0_ v3_ v4_ : Value, e = .returned (.agg #[v0_, .int .i64 r2, .bool r3, v3_, v4_]) ∧ Kd.R k69 69 w' w.heap.size (fun _ => True) v0_ r1 ∧ Kd.R k172 172 w' w.heap.size (fun _ => True) v3_ r4 ∧ Kd.R k174 174 w' w.heap.size (fun _ => True) v4_ r5 ∧ Below w.heap.size w w' := by
  have hu114 := Tryz.underlying114
  have hu97 := Tryz.underlying97
  have HR0_0 := aM hr0_0
  have HC0_0 := aM hc0_0
  clear hr0_0 hc0_0
  have HR0_3 := aM hr0_3
  have HC0_3 := aM hc0_3
  clear hr0_3 hc0_3
  have HR0_4 := aM hr0_4
  have HC0_4 := aM hc0_4
  clear hr0_4 hc0_4
  have HB := aM (Below.refl w.heap.size w)
  have H := h
  unfold laws_toThread.f at H
  clear h
  replace H := bE H; obtain ⟨t104, A2, H⟩ := H
  replace H := bE H; obtain ⟨t107, A3, H⟩ := H
  replace H := bE H; obtain ⟨t110, A4, H⟩ := H
  simp only [Option.some.injEq, Prod.mk.injEq] at H
  obtain ⟨rfl, rfl, rfl, rfl, rfl⟩ := H
  go_enter Tryz.func99, Tryz.ntmps99
  go_wp2_with (first | (refine boxE 1 #[.slice A0_0 l0_0.length c0_0, .int .i64 a0_1, .bool a0_2, .slice A0_3 l0_3.length c0_3, .slice A0_4 l0_4.length c0_4] 114 ?_; intro gbz1 hg wz1 hbox hb; have BKz1 := aM (hbox); have GWz1 := aG hg HB; have GEz1 := aG hg HB; replace HB := aS HB hb; clear hb hbox hg) | (refine boxE 2 #[.slice none 0 0, .int .i64 0, .bool false, .slice none 0 0, .slice none 0 0] 97 ?_; intro gbz2 hg wz2 hbox hb; have BKz2 := aM (hbox); have GWz2 := aG hg HB; have GEz2 := aG hg HB; have NBz1 := aL hg BKz1; have NBz2 := aR hg BKz1; replace BKz1 := aB BKz1 hb; replace HB := aS HB hb; clear hb hbox hg) | (refine boxE 3 #[.slice none 0 0, .int .i64 0, .bool false, .slice none 0 0, .slice none 0 0] 97 ?_; intro gbz3 hg wz3 hbox hb; have BKz3 := aM (hbox); have GWz3 := aG hg HB; have GEz3 := aG hg HB; have NBz3 := aL hg BKz1; have NBz4 := aR hg BKz1; have NBz5 := aL hg BKz2; have NBz6 := aR hg BKz2; replace BKz1 := aB BKz1 hb; replace BKz2 := aB BKz2 hb; replace HB := aS HB hb; clear hb hbox hg; have hnbz1 := NBz1.out; have hncz1 := NBz2.out; have hnbz2 := NBz3.out; have hncz2 := NBz4.out; obtain ⟨hczz1, hczz2, hczz3, hczz4, hczz5, hfzz1, hfzz2, hfzz3, hfzz4, hfzz5⟩ := cZ5 BKz1.out) | (refine goesM 66 6 Tryz.func66 #[.slice A0_0 l0_0.length c0_0] ?_; refine (laws_toOpS.calls _ _ _ _ _ _ (cC HR0_0.out HB.out) HC0_0.out A2.out).mono ?_; rintro e wz4 ⟨vz1, rfl, hoz1, hb⟩; refine ⟨_, rfl, ?_⟩; have HOz1 := aM (Kd.R_lower hoz1 (below_size (hX HB.out))); replace BKz1 := aB BKz1 hb; replace BKz2 := aB BKz2 hb; replace BKz3 := aB BKz3 hb; replace HB := aS HB hb; clear hb hoz1; obtain ⟨Aoz1, coz1, eoz1⟩ := Kd.R_slice HOz1.out; subst eoz1; have hnbz3 := NBz6.out; have hncz3 := NBz5.out; obtain ⟨hczz6, hczz7, hczz8, hczz9, hczz10, hfzz6, hfzz7, hfzz8, hfzz9, hfzz10⟩ := cZ5 BKz3.out; obtain ⟨hczz11, hczz12, hczz13, hczz14, hczz15, hfzz11, hfzz12, hfzz13, hfzz14, hfzz15⟩ := cZ5 BKz1.out) | (refine goesM 166 16 Tryz.func166 #[.slice A0_3 l0_3.length c0_3] ?_; refine (laws_toPairS.calls _ _ _ _ _ _ (by exact Kd.C_below HR0_3.out (hX HB.out)) HC0_3.out A3.out).mono ?_; rintro e wz5 ⟨vz2, rfl, hoz1, hb⟩; refine ⟨_, rfl, ?_⟩; have HOz2 := aM (Kd.R_lower hoz1 (below_size (hX HB.out))); replace HOz1 := aM (Kd.R_below (rF HOz1.out BKz3.out) hb); replace BKz1 := aF BKz1 hb; replace BKz2 := aF BKz2 hb; replace BKz3 := aM (blk_below (g := gbz3) (o := .cells #[.slice Aoz1 t104.length coz1, .int .i64 a0_1, .bool a0_2, .slice none 0 0, .slice none 0 0] 97 (0, 0)) (bP BKz3.out) hb); replace HB := aS HB hb; clear hb hoz1; obtain ⟨Aoz2, coz2, eoz2⟩ := Kd.R_slice HOz2.out; subst eoz2; obtain ⟨hczz16, hczz17, hczz18, hczz19, hczz20, hfzz16, hfzz17, hfzz18, hfzz19, hfzz20⟩ := cZ5 BKz3.out; obtain ⟨hczz21, hczz22, hczz23, hczz24, hczz25, hfzz21, hfzz22, hfzz23, hfzz24, hfzz25⟩ := cZ5 BKz1.out) | (refine goesM 167 20 Tryz.func167 #[.slice A0_4 l0_4.length c0_4] ?_; refine (laws_toHelpS.calls _ _ _ _ _ _ (by exact Kd.C_below HR0_4.out (hX HB.out)) HC0_4.out A4.out).mono ?_; rintro e wz6 ⟨vz3, rfl, hoz1, hb⟩; refine ⟨_, rfl, ?_⟩; have HOz3 := aM (Kd.R_lower hoz1 (below_size (hX HB.out))); replace HOz1 := aM (Kd.R_below (rF HOz1.out BKz3.out) hb); replace HOz2 := aM (Kd.R_below (rF HOz2.out BKz3.out) hb); replace BKz1 := aF BKz1 hb; replace BKz2 := aF BKz2 hb; replace BKz3 := aM (blk_below (g := gbz3) (o := .cells #[.slice Aoz1 t104.length coz1, .int .i64 a0_1, .bool a0_2, .slice Aoz2 t107.length coz2, .slice none 0 0] 97 (0, 0)) (bP BKz3.out) hb); replace HB := aS HB hb; clear hb hoz1; obtain ⟨Aoz3, coz3, eoz3⟩ := Kd.R_slice HOz3.out; subst eoz3; obtain ⟨hczz26, hczz27, hczz28, hczz29, hczz30, hfzz26, hfzz27, hfzz28, hfzz29, hfzz30⟩ := cZ5 BKz3.out; obtain ⟨hczz31, hczz32, hczz33, hczz34, hczz35, hfzz31, hfzz32, hfzz33, hfzz34, hfzz35⟩ := cZ5 BKz2.out))
  refine bodyPost_ret (results_cell_row rfl _ _ gbz2 97 #[.slice Aoz1 t104.length coz1, .int .i64 a0_1, .bool a0_2, .slice Aoz2 t107.length coz2, .slice Aoz3 t110.length coz3] (0, 0) _ rfl (bP BKz2.out) Tryz.underlying97 rfl (by kernel_rfl)) rfl ?_
  exact ⟨_, _, _, rE, (rT (h := by exact Kd.R_mono (Kd.R_far (p := ⟨gbz2, 4, none⟩) (Kd.R_far (p := ⟨gbz2, 3, none⟩) (Kd.R_far (p := ⟨gbz2, 2, none⟩) (Kd.R_far (p := ⟨gbz2, 1, none⟩) (Kd.R_far (p := ⟨gbz2, 0, none⟩) (Kd.R_far (p := ⟨gbz3, 4, none⟩) (Kd.R_types (Kd.R_types HOz1.out BKz3.out (by decide)) BKz2.out (by decide)) (fun _ hk => hk.1.2) (.slice Aoz3 t110.length coz3)) (fun _ hk => hk.2) (.slice Aoz1 t104.length coz1)) (fun _ hk => hk.2) (.int .i64 a0_1)) (fun _ hk => hk.2) (.bool a0_2)) (fun _ hk => hk.2) (.slice Aoz2 t107.length coz2)) (fun _ hk => hk.2) (.slice Aoz3 t110.length coz3)) (fun _ hk => trivial))), (rT (h := by exact Kd.R_mono (Kd.R_far (p := ⟨gbz2, 4, none⟩) (Kd.R_far (p := ⟨gbz2, 3, none⟩) (Kd.R_far (p := ⟨gbz2, 2, none⟩) (Kd.R_far (p := ⟨gbz2, 1, none⟩) (Kd.R_far (p := ⟨gbz2, 0, none⟩) (Kd.R_far (p := ⟨gbz3, 4, none⟩) (Kd.R_types (Kd.R_types HOz2.out BKz3.out (by decide)) BKz2.out (by decide)) (fun _ hk => hk.1.2) (.slice Aoz3 t110.length coz3)) (fun _ hk => hk.2) (.slice Aoz1 t104.length coz1)) (fun _ hk => hk.2) (.int .i64 a0_1)) (fun _ hk => hk.2) (.bool a0_2)) (fun _ hk => hk.2) (.slice Aoz2 t107.length coz2)) (fun _ hk => hk.2) (.slice Aoz3 t110.length coz3)) (fun _ hk => trivial))), (rT (h := by exact Kd.R_mono (Kd.R_far (p := ⟨gbz2, 4, none⟩) (Kd.R_far (p := ⟨gbz2, 3, none⟩) (Kd.R_far (p := ⟨gbz2, 2, none⟩) (Kd.R_far (p := ⟨gbz2, 1, none⟩) (Kd.R_far (p := ⟨gbz2, 0, none⟩) (Kd.R_far (p := ⟨gbz3, 4, none⟩) (Kd.R_types (Kd.R_types HOz3.out BKz3.out (by decide)) BKz2.out (by decide)) (fun _ hk => hk.1.2) (.slice Aoz3 t110.length coz3)) (fun _ hk => hk.2) (.slice Aoz1 t104.length coz1)) (fun _ hk => hk.2) (.int .i64 a0_1)) (fun _ hk => hk.2) (.bool a0_2)) (fun _ hk => hk.2) (.slice Aoz2 t107.length coz2)) (fun _ hk => hk.2) (.slice Aoz3 t110.length coz3)) (fun _ hk => trivial))), (hX HB.out)⟩
def laws_toThreadS.l0 : Nat → List (S114) → List (S97) → Int → Option ((List (S97)))
  | 0, _, _, _ => none
  | k + 1, x0, x3, x4 => if x4 < (x0.length : Int) then (if 0 ≤ x4 then ((laws_toThread.f k ((rd_T114 x0 x4).f0) ((rd_T114 x0 x4).f1) ((rd_T114 x0 x4).f2) ((rd_T114 x0 x4).f3) ((rd_T114 x0 x4).f4)).bind fun bt105 => (if x4 < (x3.length : Int) then (laws_toThreadS.l0 k x0 (x3.set (x4 : Int).toNat (⟨bt105.1, bt105.2.1, bt105.2.2.1, bt105.2.2.2.1, bt105.2.2.2.2⟩ : S97)) (wrap64 (x4 + 1))) else (none))) else (none)) else (some x3)
def laws_toThreadS.f (k : Nat) (l0 : List (S114)) : Option ((List (S97))) := if 0 ≤ (l0.length : Int) then (if ((l0.length : Int) : Int).toNat ≤ 3198579280802 then (laws_toThreadS.l0 k l0 (List.replicate ((l0.length : Int) : Int).toNat z97) 0) else (none)) else (none)
set_option maxHeartbeats 8000000 in
set_option maxRecDepth 100000 in
theorem laws_toThreadS.calls (k : Nat) (A0 : Option Addr) (c0 : Nat) (l0 : List (S114)) (r : List (S97)) (w : World) (hr0 : Kd.C k114 w A0 l0.length l0) (hc0 : l0.length ≤ c0) (h : laws_toThreadS.f k l0 = some r) :
    Calls Tryz.prog 45 #[.slice A0 l0.length c0] w fun e w' => ∃ v0_ : Value, e = .returned (v0_) ∧ Kd.S k97 97 w' w.heap.size (fun _ => True) v0_ r ∧ Below w.heap.size w w' := by
  have hu114 := Tryz.underlying114
  have hu97 := Tryz.underlying97
  have HR0 := aM hr0
  have HC0 := aM hc0
  clear hr0 hc0
  have HB := aM (Below.refl w.heap.size w)
  have H := h
  unfold laws_toThreadS.f at H
  clear h
  replace H := ifP H; obtain ⟨c2, H⟩ := H
  have c2b0 := eq_true c2
  have c2b1 := decide_eq_true c2
  clear c2
  replace H := ifP H; obtain ⟨c3, H⟩ := H
  have c3b0 := eq_true c3
  have c3b1 := decide_eq_true c3
  clear c3
  obtain ⟨y101, hy101⟩ : ∃ y_ : List (S97), y_ = (List.replicate ((l0.length : Int) : Int).toNat z97) := ⟨_, rfl⟩
  replace H : (laws_toThreadS.l0 k l0 y101 0) = some r := yH H hy101
  have Ny101 := aM hy101
  clear hy101
  have H' := aM H
  clear H
  go_enter Tryz.func45, Tryz.ntmps45
  go_wp2_with (first | ((with_reducible refine gate_dst (N := 7) rfl ?_); refine Kd.S_make k97 _ 97 rfl (N := 7) rfl 39 _ _ rfl (l0.length : Int) rfl rfl Tryz.underlying39 (.agg #[(.slice none 0 0), (.int .i64 0), (.bool false), (.slice none 0 0), (.slice none 0 0)]) 88 info97 rfl (by decide) (by omega) z97 (ok := fun _ => True) (okp := fun _ => True) (k97_mkM _ _ _ z97 (Kd.R_nil _ _ _ _ _) (Kd.R_nil _ _ _ _ _) (Kd.R_nil _ _ _ _ _)) (fun _ hk => hk) trivial (odA) (Nat.le_trans (Nat.mul_le_mul_right _ (odA : (l0.length : Int).toNat ≤ 3198579280802)) (by omega)) (Below.refl _ _) (Nat.le_refl _) ?_; intro vz1 wz1 hoz1 hb hg_ hnew_; clear hg_ hnew_; (first | rw [← Ny101.out] at hoz1 | (simp only [Int.reduceToNat] at hoz1; rw [← Ny101.out] at hoz1)); have HOz1 := aM (Kd.S_lower hoz1 (below_size (hX HB.out))); replace HB := aS HB hb; clear hb hoz1))
  go_loopg [4] k (fun kq v4 w' => ∃ (x3_1 : List (S97)) (x4_1 : Int), v4 = .int .i64 x4_1 ∧ Aside0 (laws_toThreadS.l0 kq l0 x3_1 x4_1 = some r) ∧ Aside0 (kq ≤ k) ∧ Aside0 (Kd.S k97 97 w' w.heap.size (fun _ => True) vz1 x3_1) ∧ Aside0 (Below w.heap.size w w'))
  case atStart => exact ⟨(y101), (0), rS, H', ⟨Nat.le_refl _⟩, ⟨(sX HOz1.out)⟩, ⟨(hX HB.out)⟩⟩
  case round =>
    clear H'
    try clear c2
    try clear c2b0
    try clear c2b1
    try clear p2
    try clear c3
    try clear c3b0
    try clear c3b1
    obtain ⟨x3_1, x4_1, rfl, HA, HKy1, HO_y1, HB⟩ := hrel
    cases gk with
    | zero => exact absurd HA.out (by simp [laws_toThreadS.l0])
    | succ k1 =>
      have H := HA.out
      clear HA
      simp only [laws_toThreadS.l0] at H
      by_cases c6 : x4_1 < (l0.length : Int)
      case neg =>
        rw [if_neg c6] at H
        have c6b0 := decide_eq_false c6
        clear c6
        obtain rfl := sI H
        go_wp2
        go_ret
        exact ⟨_, rE, (sX HO_y1.out), (hX HB.out)⟩
      rw [if_pos c6] at H
      have c6b0 := decide_eq_true c6
      clear c6
      replace H := ifP H; obtain ⟨c7, H⟩ := H
      have c7b0 := decide_eq_true c7
      clear c7
      replace H := bE H; obtain ⟨⟨t105, t108, t109, t110, t113⟩, A8, H⟩ := H
      try dsimp only at H
      replace H := ifP H; obtain ⟨c9, H⟩ := H
      have c9b0 := decide_eq_true c9
      clear c9
      obtain ⟨y116, hy116⟩ : ∃ y_ : List (S97), y_ = (x3_1.set (x4_1 : Int).toNat (⟨t105, t108, t109, t110, t113⟩ : S97)) := ⟨_, rfl⟩
      replace H : (laws_toThreadS.l0 k1 l0 y116 (wrap64 (x4_1 + 1))) = some r := yH H hy116
      have Ny116 := aM hy116
      clear hy116
      have H' := aM H
      clear H
      have px1 : 0 ≤ (x4_1 : Int) := odA
      have qx1 : x4_1 < (l0.length : Int) := odA
      obtain ⟨adx1, Ax1, cx1, Ax2, cx2, Ax3, cx3, ex1, hxx1, hxx2, hxx3, hxx4, hxx5, hlx1, hix1, hlx2, hix2, hlx3, hix3⟩ := at_T114b HR0.out HB.out x4_1 px1 qx1
      cases ex1
      have HRx1 := aM hix1
      have HCx1 := aM hlx1
      clear hix1 hlx1
      have HRx2 := aM hix2
      have HCx2 := aM hlx2
      clear hix2 hlx2
      have HRx3 := aM hix3
      have HCx3 := aM hlx3
      clear hix3 hlx3
      replace px1 := eq_true px1
      replace qx1 := eq_true qx1
      go_wp2_with (first | (refine goesM 99 20 Tryz.func99 #[.agg #[.slice Ax1 ((rd_T114 l0 x4_1).f0).length cx1, .int .i64 ((rd_T114 l0 x4_1).f1), .bool ((rd_T114 l0 x4_1).f2), .slice Ax2 ((rd_T114 l0 x4_1).f3).length cx2, .slice Ax3 ((rd_T114 l0 x4_1).f4).length cx3]] ?_; refine (laws_toThread.calls _ _ _ _ _ _ _ _ _ _ _ _ _ _ _ _ _ _ (cC HRx1.out HB.out) HCx1.out (cC HRx2.out HB.out) HCx2.out (cC HRx3.out HB.out) HCx3.out A8.out).mono ?_; rintro e wx1 ⟨vx1, vx2, vx3, rfl, hox1, hox2, hox3, hb⟩; refine ⟨_, rfl, ?_⟩; have HOx1 := aM (Kd.R_lower hox1 (below_size (hX HB.out))); have HOx2 := aM (Kd.R_lower hox2 (below_size (hX HB.out))); have HOx3 := aM (Kd.R_lower hox3 (below_size (hX HB.out))); replace HO_y1 := aM (Kd.S_mono (Kd.S_told (Kd.S_told (Kd.S_told (Kd.S_old (sX HO_y1.out) hb) (Kd.R_base hox1)) (Kd.R_base hox2)) (Kd.R_base hox3)) (fun _ h_ => h_.1)); replace HB := aS HB hb; clear hb hox1 hox2 hox3; have px2 : 0 ≤ (x4_1 : Int) := odA; have qx2 : (x4_1 : Int) < ((x3_1.length : Int) : Int) := odA; obtain ⟨gox1, cox1, eox1, gbx1, glx1, clx1, HGx1⟩ := Kd.S_form HO_y1.out (by omega); (first | cases eox1 | (injection eox1 with ea_ en_ ec_; (first | subst ea_ | (injection ea_ with ea_; subst ea_)); subst ec_; clear en_)); have GBx1 := aM gbx1; have GGx1 := aM HGx1; clear gbx1 glx1 HGx1; obtain ⟨_, cex1, hclx1, hMx1, hccx1, hfrx1, _, _⟩ := Kd.S_elem HO_y1.out z97 (x4_1 : Int) px2 qx2; obtain ⟨vex1, vex2, vex3, rfl, gex1, gex2, gex3⟩ := k97_openM hMx1; have hxx6 : wx1.cell? ⟨gox1, (x4_1 : Int).toNat * 5, none⟩ = some (vex1) := hccx1 0 _ rfl; have hxx7 : wx1.cell? ⟨gox1, (x4_1 : Int).toNat * 5 + 1, none⟩ = some (.int .i64 ((rd_T97 x3_1 x4_1).f1)) := hccx1 1 _ rfl; have hxx8 : wx1.cell? ⟨gox1, (x4_1 : Int).toNat * 5 + 2, none⟩ = some (.bool ((rd_T97 x3_1 x4_1).f2)) := hccx1 2 _ rfl; have hxx9 : wx1.cell? ⟨gox1, (x4_1 : Int).toNat * 5 + 3, none⟩ = some (vex2) := hccx1 3 _ rfl; have hxx10 : wx1.cell? ⟨gox1, (x4_1 : Int).toNat * 5 + 4, none⟩ = some (vex3) := hccx1 4 _ rfl; have hfx1 : wx1.frozen? ⟨gox1, (x4_1 : Int).toNat * 5, none⟩ = false := hfrx1 0; have hfx2 : wx1.frozen? ⟨gox1, (x4_1 : Int).toNat * 5 + 1, none⟩ = false := hfrx1 1; have hfx3 : wx1.frozen? ⟨gox1, (x4_1 : Int).toNat * 5 + 2, none⟩ = false := hfrx1 2; have hfx4 : wx1.frozen? ⟨gox1, (x4_1 : Int).toNat * 5 + 3, none⟩ = false := hfrx1 3; have hfx5 : wx1.frozen? ⟨gox1, (x4_1 : Int).toNat * 5 + 4, none⟩ = false := hfrx1 4; clear hclx1 hccx1 hfrx1 hMx1; replace px2 := eq_true px2; replace qx2 := eq_true qx2; obtain ⟨Aox1, cox2, eox2⟩ := Kd.R_slice HOx1.out; subst eox2; obtain ⟨Aox2, cox3, eox3⟩ := Kd.R_slice HOx2.out; subst eox3; obtain ⟨Aox3, cox4, eox4⟩ := Kd.R_slice HOx3.out; subst eox4; have n_ := aM (Kd.S_mono (ok' := (fun k_ => some k_ ≠ (.slice Aox1 t105.length cox2 : Value).ownBlock ∧ some k_ ≠ (.slice Aox2 t110.length cox3 : Value).ownBlock ∧ some k_ ≠ (.slice Aox3 t113.length cox4 : Value).ownBlock)) HO_y1.out (fun k_ hk => ⟨hk.1.1.2, ⟨hk.1.2, hk.2⟩⟩)); clear HO_y1; have HO_y1 := n_; clear n_; have HXx1 := aM (show Kd.S k97 97 wx1 w.heap.size (fun k_ => ((fun _ => True)) k_ ∧ ¬ ((fun k_ => some k_ = (.slice Aox1 t105.length cox2 : Value).ownBlock ∨ some k_ = (.slice Aox2 t110.length cox3 : Value).ownBlock ∨ some k_ = (.slice Aox3 t113.length cox4 : Value).ownBlock)) k_) (.slice (some ⟨gox1, 0, none⟩) x3_1.length cox1) x3_1 from (by (with_reducible repeat (first | apply Kd.S_alloc | apply Kd.S_drewN | apply Kd.S_drew)); exact Kd.S_mono HO_y1.out (fun k_ hk => ⟨trivial, fun e_ => e_.elim (fun h_ => hk.1 h_) (fun h_ => h_.elim (fun h_ => hk.2.1 h_) (fun h_ => hk.2.2 h_))⟩))); obtain ⟨okix1, cex2, hclx2, hMx2, hccx2, hfrx2, hokix1, hHx1⟩ := Kd.S_elem HXx1.out z97 (x4_1 : Int) (odA) (by have h_ : (x4_1 : Int) < ((x3_1.length : Int) : Int) := odA; first | exact h_ | (have e_ := (Kd.S_reads' HO_y1.out).1; omega) | simpa using h_); obtain ⟨vex4, vex5, vex6, rfl, gex4, gex5, gex6⟩ := k97_openM hMx2; have HPx1 := Kd.S_seg hHx1 (odA) (by have h_ : (x4_1 : Int) < ((x3_1.length : Int) : Int) := odA; first | exact h_ | (have e_ := (Kd.S_reads' HO_y1.out).1; omega) | simpa using h_) (seg := [.slice Aox1 t105.length cox2, .int .i64 t108, .bool t109, .slice Aox2 t110.length cox3, .slice Aox3 t113.length cox4]) (j := 0) (show 5 ≤ 5 from by decide) (x' := (⟨t105, t108, t109, t110, t113⟩ : S97)) (k97_mkM _ _ _ (⟨t105, t108, t109, t110, t113⟩ : S97) (Kd.R_mono (Kd.R_tight rfl (Kd.R_mono (ok' := fun k_ => ((fun _ => True)) k_ ∧ k_ ≠ gox1) (Kd.R_apart' (HOx1.out) (Kd.S_typed HO_y1.out) (by decide)) (fun k_ hk => ⟨trivial, fun e_ => (hk.2) (by rw [e_]; rfl)⟩))) (fun _ h_ => Or.inr (Or.inl h_))) (Kd.R_mono (Kd.R_tight rfl (Kd.R_mono (ok' := fun k_ => ((fun _ => True)) k_ ∧ k_ ≠ gox1) (Kd.R_apart' (HOx2.out) (Kd.S_typed HO_y1.out) (by decide)) (fun k_ hk => ⟨trivial, fun e_ => (hk.2) (by rw [e_]; rfl)⟩))) (fun _ h_ => Or.inr (Or.inr (Or.inl h_)))) (Kd.R_mono (Kd.R_tight rfl (Kd.R_mono (ok' := fun k_ => ((fun _ => True)) k_ ∧ k_ ≠ gox1) (Kd.R_apart' (HOx3.out) (Kd.S_typed HO_y1.out) (by decide)) (fun k_ hk => ⟨trivial, fun e_ => (hk.2) (by rw [e_]; rfl)⟩))) (fun _ h_ => Or.inr (Or.inr (Or.inr (h_)))))) (fun _ hk => hk) (fun k_ hk_ => hk_.elim (fun h_ => ((Kd.R_mono (ok' := fun k_ => ((fun _ => True)) k_ ∧ k_ ≠ gox1) (Kd.R_apart' (HOx1.out) (Kd.S_typed HO_y1.out) (by decide)) (fun k_ hk => ⟨trivial, fun e_ => (hk.2) (by rw [e_]; rfl)⟩))).1 k_ h_.symm) (fun h_ => h_.elim (fun h_ => ((Kd.R_mono (ok' := fun k_ => ((fun _ => True)) k_ ∧ k_ ≠ gox1) (Kd.R_apart' (HOx2.out) (Kd.S_typed HO_y1.out) (by decide)) (fun k_ hk => ⟨trivial, fun e_ => (hk.2) (by rw [e_]; rfl)⟩))).1 k_ h_.symm) (fun h_ => ((Kd.R_mono (ok' := fun k_ => ((fun _ => True)) k_ ∧ k_ ≠ gox1) (Kd.R_apart' (HOx3.out) (Kd.S_typed HO_y1.out) (by decide)) (fun k_ hk => ⟨trivial, fun e_ => (hk.2) (by rw [e_]; rfl)⟩))).1 k_ h_.symm))); have hxx11 := hccx2 0 _ rfl; (try simp only [show (k97).sz = 5 from rfl, Nat.mul_one, Nat.add_zero] at hxx11); have hfx6 := hfrx2 0; (try simp only [show (k97).sz = 5 from rfl, Nat.mul_one, Nat.add_zero] at hfx6); have hxx12 := hccx2 1 _ rfl; (try simp only [show (k97).sz = 5 from rfl, Nat.mul_one, Nat.add_zero] at hxx12); have hfx7 := hfrx2 1; (try simp only [show (k97).sz = 5 from rfl, Nat.mul_one, Nat.add_zero] at hfx7); have hxx13 := hccx2 2 _ rfl; (try simp only [show (k97).sz = 5 from rfl, Nat.mul_one, Nat.add_zero] at hxx13); have hfx8 := hfrx2 2; (try simp only [show (k97).sz = 5 from rfl, Nat.mul_one, Nat.add_zero] at hfx8); have hxx14 := hccx2 3 _ rfl; (try simp only [show (k97).sz = 5 from rfl, Nat.mul_one, Nat.add_zero] at hxx14); have hfx9 := hfrx2 3; (try simp only [show (k97).sz = 5 from rfl, Nat.mul_one, Nat.add_zero] at hfx9); have hxx15 := hccx2 4 _ rfl; (try simp only [show (k97).sz = 5 from rfl, Nat.mul_one, Nat.add_zero] at hxx15); have hfx10 := hfrx2 4; (try simp only [show (k97).sz = 5 from rfl, Nat.mul_one, Nat.add_zero] at hfx10); clear hclx2 hccx2 hfrx2 hMx2 hokix1 hHx1) | ((with_reducible refine gate_store (t := 97) (p := 21) rfl ?_); refine store_event (t := 97) (p := 21) (v := ?vo_wx2) (w1 := (((((wx1.setCell ⟨gox1, (x4_1 : Int).toNat * 5, none⟩ (.slice Aox1 t105.length cox2)).setCell ⟨gox1, (x4_1 : Int).toNat * 5 + 1, none⟩ (.int .i64 t108)).setCell ⟨gox1, (x4_1 : Int).toNat * 5 + 2, none⟩ (.bool t109)).setCell ⟨gox1, (x4_1 : Int).toNat * 5 + 3, none⟩ (.slice Aox2 t110.length cox3)).setCell ⟨gox1, (x4_1 : Int).toNat * 5 + 4, none⟩ (.slice Aox3 t113.length cox4))) ?hg ?ho ?hn ?hr ?_; (case ho => rfl); (case hg => rfl); (case hn => rfl); (case hr => first | (go_simp; done) | (go_simp; rfl)); intro wx2 hw; have hg : wx1.grownBy wx2 (some gox1) := (by rw [hw]; exact HPx1.2); have hp_ : Kd.S k97 97 wx2 w.heap.size (fun _ => True) (.slice (some ⟨gox1, 0, none⟩) x3_1.length cox1) y116 := (by rw [hw, Ny116.out]; exact HPx1.1); clear HPx1; replace HO_y1 := aM (hp_); replace HB := aM ((by rw [hw]; exact below_set (below_set (below_set (below_set (below_set (HB.out) GBx1.out) GBx1.out) GBx1.out) GBx1.out) GBx1.out : Below w.heap.size w wx2)); clear HOx1 HOx2 HOx3; clear hg hw hp_))
      go_roundg k1
      case measure => have := HKy1.out; omega
      case rel => exact ⟨(y116), (wrap64 (x4_1 + 1)), rS, H', ⟨by have := HKy1.out; omega⟩, ⟨(sX HO_y1.out)⟩, ⟨(hX HB.out)⟩⟩
def laws_toCall.f (k : Nat) (a0_0 : Int) (a0_1 : Int) (a0_2 : Int) (a0_3 : Int) (a0_4 : Int) (a0_5 : Int) (a0_6 : Int) (a0_7 : Int) (l0_8 : List Int) : Option (Int × Int × Int × Int × Int × Int × Int × Int × List Int) := (laws_toOp.f a0_1 a0_2 a0_3).bind fun bt104 => ((laws_toRes.f k a0_7 l0_8).bind fun bt107 => (some (a0_0, bt104.1, bt104.2.1, bt104.2.2, a0_4, a0_5, a0_6, bt107.1, bt107.2)))
set_option maxHeartbeats 8000000 in
set_option maxRecDepth 100000 in
theorem laws_toCall.calls (k : Nat) (a0_0 : Int) (a0_1 : Int) (a0_2 : Int) (a0_3 : Int) (a0_4 : Int) (a0_5 : Int) (a0_6 : Int) (a0_7 : Int) (A0_8 : Option Addr) (c0_8 : Nat) (l0_8 : List Int) (r1 : Int) (r2 : Int) (r3 : Int) (r4 : Int) (r5 : Int) (r6 : Int) (r7 : Int) (r8 : Int) (r9 : List Int) (w : World) (hr0_8 : Kd.C (Kd.int .i64) w A0_8 l0_8.length l0_8) (hc0_8 : l0_8.length ≤ c0_8) (h : laws_toCall.f k a0_0 a0_1 a0_2 a0_3 a0_4 a0_5 a0_6 a0_7 l0_8 = some (r1, r2, r3, r4, r5, r6, r7, r8, r9)) :
    Calls Tryz.prog 100 #[.agg #[.int .i64 a0_0, .int .i64 a0_1, .int .i64 a0_2, .int .i64 a0_3, .int .i64 a0_4, .int .i64 a0_5, .int .i64 a0_6, .int .i64 a0_7, .slice A0_8 l0_8.length c0_8]] w fun e w' => ∃ v8_ : Value, e = .returned (.agg #[.int .i64 r1, .int .i64 r2, .int .i64 r3, .int .i64 r4, .int .i64 r5, .int .i64 r6, .int .i64 r7, .int .i64 r8, v8_]) ∧ Kd.R (Kd.int .i64) 3 w' w.heap.size (fun _ => True) v8_ r9 ∧ Below w.heap.size w w' := by
  have hu119 := Tryz.underlying119
  have hu73 := Tryz.underlying73
  have hu116 := Tryz.underlying116
  have hu69 := Tryz.underlying69
  have hu117 := Tryz.underlying117
  have hu71 := Tryz.underlying71
  have HR0_8 := aM hr0_8
  have HC0_8 := aM hc0_8
  clear hr0_8 hc0_8
  have HB := aM (Below.refl w.heap.size w)
  have H := h
  unfold laws_toCall.f at H
  clear h
  replace H := bE H; obtain ⟨⟨t104, t105, t106⟩, A2, H⟩ := H
  try dsimp only at H
  replace H := bE H; obtain ⟨⟨t107, t108⟩, A3, H⟩ := H
  try dsimp only at H
  simp only [Option.some.injEq, Prod.mk.injEq] at H
  obtain ⟨rfl, rfl, rfl, rfl, rfl, rfl, rfl, rfl, rfl⟩ := H
  go_enter Tryz.func100, Tryz.ntmps100
  go_wp2_with (first | (refine boxE 1 #[.int .i64 a0_0, .int .i64 a0_1, .int .i64 a0_2, .int .i64 a0_3, .int .i64 a0_4, .int .i64 a0_5, .int .i64 a0_6, .int .i64 a0_7, .slice A0_8 l0_8.length c0_8] 119 ?_; intro gbz1 hg wz1 hbox hb; have BKz1 := aM (hbox); have GWz1 := aG hg HB; have GEz1 := aG hg HB; replace HB := aS HB hb; clear hb hbox hg) | (refine boxE 2 #[.int .i64 0, .int .i64 0, .int .i64 0, .int .i64 0, .int .i64 0, .int .i64 0, .int .i64 0, .int .i64 0, .slice none 0 0] 73 ?_; intro gbz2 hg wz2 hbox hb; have BKz2 := aM (hbox); have GWz2 := aG hg HB; have GEz2 := aG hg HB; have NBz1 := aL hg BKz1; have NBz2 := aR hg BKz1; replace BKz1 := aB BKz1 hb; replace HB := aS HB hb; clear hb hbox hg) | (refine boxE 3 #[.int .i64 0, .int .i64 0, .int .i64 0, .int .i64 0, .int .i64 0, .int .i64 0, .int .i64 0, .int .i64 0, .slice none 0 0] 73 ?_; intro gbz3 hg wz3 hbox hb; have BKz3 := aM (hbox); have GWz3 := aG hg HB; have GEz3 := aG hg HB; have NBz3 := aL hg BKz1; have NBz4 := aR hg BKz1; have NBz5 := aL hg BKz2; have NBz6 := aR hg BKz2; replace BKz1 := aB BKz1 hb; replace BKz2 := aB BKz2 hb; replace HB := aS HB hb; clear hb hbox hg; have hnbz1 := NBz1.out; have hncz1 := NBz2.out; have hnbz2 := NBz3.out; have hncz2 := NBz4.out; obtain ⟨hczz1, hczz2, hczz3, hczz4, hczz5, hczz6, hczz7, hczz8, hczz9, hfzz1, hfzz2, hfzz3, hfzz4, hfzz5, hfzz6, hfzz7, hfzz8, hfzz9⟩ := cZ9 BKz1.out; have hnbz3 := NBz6.out; have hncz3 := NBz5.out; obtain ⟨hczz10, hczz11, hczz12, hczz13, hczz14, hczz15, hczz16, hczz17, hczz18, hfzz10, hfzz11, hfzz12, hfzz13, hfzz14, hfzz15, hfzz16, hfzz17, hfzz18⟩ := cZ9 BKz3.out) | (refine goesM 126 9 Tryz.func126 #[.agg #[.int .i64 a0_1, .int .i64 a0_2, .int .i64 a0_3]] ?_; refine (laws_toOp.calls _ _ _ _ _ _ _ A2.out).mono ?_; rintro e wz4 ⟨rfl, hb⟩; refine ⟨_, rfl, ?_⟩; replace BKz1 := aF BKz1 hb; replace BKz2 := aF BKz2 hb; replace BKz3 := aM (blk_below (g := gbz3) (o := .cells #[.int .i64 a0_0, .int .i64 0, .int .i64 0, .int .i64 0, .int .i64 0, .int .i64 0, .int .i64 0, .int .i64 0, .slice none 0 0] 73 (0, 0)) (bP BKz3.out) hb); replace HB := aS HB hb; clear hb; obtain ⟨hczz19, hczz20, hczz21, hczz22, hczz23, hczz24, hczz25, hczz26, hczz27, hfzz19, hfzz20, hfzz21, hfzz22, hfzz23, hfzz24, hfzz25, hfzz26, hfzz27⟩ := cZ9 BKz3.out; obtain ⟨hczz28, hczz29, hczz30, hczz31, hczz32, hczz33, hczz34, hczz35, hczz36, hfzz28, hfzz29, hfzz30, hfzz31, hfzz32, hfzz33, hfzz34, hfzz35, hfzz36⟩ := cZ9 BKz1.out) | (refine goesM 168 22 Tryz.func168 #[.agg #[.int .i64 a0_7, .slice A0_8 l0_8.length c0_8]] ?_; refine (laws_toRes.calls k a0_7 _ _ l0_8 t107 t108 _ (by exact Kd.C_below HR0_8.out (hX HB.out)) HC0_8.out A3.out).mono ?_; rintro e wz5 ⟨vz1, rfl, hoz1, hb⟩; refine ⟨_, rfl, ?_⟩; have HOz1 := aM (Kd.R_lower hoz1 (below_size (hX HB.out))); replace BKz1 := aF BKz1 hb; replace BKz2 := aF BKz2 hb; replace BKz3 := aM (blk_below (g := gbz3) (o := .cells #[.int .i64 a0_0, .int .i64 t104, .int .i64 t105, .int .i64 t106, .int .i64 a0_4, .int .i64 a0_5, .int .i64 a0_6, .int .i64 0, .slice none 0 0] 73 (0, 0)) (bP BKz3.out) hb); replace HB := aS HB hb; clear hb hoz1; obtain ⟨hczz37, hczz38, hczz39, hczz40, hczz41, hczz42, hczz43, hczz44, hczz45, hfzz37, hfzz38, hfzz39, hfzz40, hfzz41, hfzz42, hfzz43, hfzz44, hfzz45⟩ := cZ9 BKz3.out; obtain ⟨Aoz1, coz1, eoz1⟩ := Kd.R_slice HOz1.out; subst eoz1; obtain ⟨hczz46, hczz47, hczz48, hczz49, hczz50, hczz51, hczz52, hczz53, hczz54, hfzz46, hfzz47, hfzz48, hfzz49, hfzz50, hfzz51, hfzz52, hfzz53, hfzz54⟩ := cZ9 BKz2.out))
  refine bodyPost_ret (results_cell_row rfl _ _ gbz2 73 #[.int .i64 a0_0, .int .i64 t104, .int .i64 t105, .int .i64 t106, .int .i64 a0_4, .int .i64 a0_5, .int .i64 a0_6, .int .i64 t107, .slice Aoz1 t108.length coz1] (0, 0) _ rfl (bP BKz2.out) Tryz.underlying73 rfl (by kernel_rfl)) rfl ?_
  exact ⟨_, rE, (rT (h := by exact Kd.R_mono (Kd.R_far (p := ⟨gbz2, 8, none⟩) (Kd.R_far (p := ⟨gbz2, 7, none⟩) (Kd.R_far (p := ⟨gbz2, 6, none⟩) (Kd.R_far (p := ⟨gbz2, 5, none⟩) (Kd.R_far (p := ⟨gbz2, 4, none⟩) (Kd.R_far (p := ⟨gbz2, 3, none⟩) (Kd.R_far (p := ⟨gbz2, 2, none⟩) (Kd.R_far (p := ⟨gbz2, 1, none⟩) (Kd.R_far (p := ⟨gbz2, 0, none⟩) (Kd.R_far (p := ⟨gbz3, 8, none⟩) (Kd.R_far (p := ⟨gbz3, 7, none⟩) (Kd.R_types (Kd.R_types HOz1.out BKz3.out (by decide)) BKz2.out (by decide)) (fun _ hk => hk.1.2) (.int .i64 t107)) (fun _ hk => hk.1.2) (.slice Aoz1 t108.length coz1)) (fun _ hk => hk.2) (.int .i64 a0_0)) (fun _ hk => hk.2) (.int .i64 t104)) (fun _ hk => hk.2) (.int .i64 t105)) (fun _ hk => hk.2) (.int .i64 t106)) (fun _ hk => hk.2) (.int .i64 a0_4)) (fun _ hk => hk.2) (.int .i64 a0_5)) (fun _ hk => hk.2) (.int .i64 a0_6)) (fun _ hk => hk.2) (.int .i64 t107)) (fun _ hk => hk.2) (.slice Aoz1 t108.length coz1)) (fun _ hk => trivial))), (hX HB.out)⟩
def laws_toCallS.l0 : Nat → List (S119) → List (S73) → Int → Option ((List (S73)))
  | 0, _, _, _ => none
  | k + 1, x0, x3, x4 => if x4 < (x0.length : Int) then (if 0 ≤ x4 then ((laws_toCall.f k ((rd_T119 x0 x4).f0) ((rd_T119 x0 x4).f1.f0) ((rd_T119 x0 x4).f1.f1) ((rd_T119 x0 x4).f1.f2) ((rd_T119 x0 x4).f2) ((rd_T119 x0 x4).f3) ((rd_T119 x0 x4).f4) ((rd_T119 x0 x4).f5.f0) ((rd_T119 x0 x4).f5.f1)).bind fun bt105 => (if x4 < (x3.length : Int) then (laws_toCallS.l0 k x0 (x3.set (x4 : Int).toNat (⟨bt105.1, (⟨bt105.2.1, bt105.2.2.1, bt105.2.2.2.1⟩ : S69), bt105.2.2.2.2.1, bt105.2.2.2.2.2.1, bt105.2.2.2.2.2.2.1, (⟨bt105.2.2.2.2.2.2.2.1, bt105.2.2.2.2.2.2.2.2⟩ : S71)⟩ : S73)) (wrap64 (x4 + 1))) else (none))) else (none)) else (some x3)
def laws_toCallS.f (k : Nat) (l0 : List (S119)) : Option ((List (S73))) := if 0 ≤ (l0.length : Int) then (if ((l0.length : Int) : Int).toNat ≤ 3198579280802 then (laws_toCallS.l0 k l0 (List.replicate ((l0.length : Int) : Int).toNat z73) 0) else (none)) else (none)
set_option maxHeartbeats 8000000 in
set_option maxRecDepth 100000 in
theorem laws_toCallS.calls (k : Nat) (A0 : Option Addr) (c0 : Nat) (l0 : List (S119)) (r : List (S73)) (w : World) (hr0 : Kd.C k119 w A0 l0.length l0) (hc0 : l0.length ≤ c0) (h : laws_toCallS.f k l0 = some r) :
    Calls Tryz.prog 46 #[.slice A0 l0.length c0] w fun e w' => ∃ v0_ : Value, e = .returned (v0_) ∧ Kd.S k73 73 w' w.heap.size (fun _ => True) v0_ r ∧ Below w.heap.size w w' := by
  have hu119 := Tryz.underlying119
  have hu73 := Tryz.underlying73
  have HR0 := aM hr0
  have HC0 := aM hc0
  clear hr0 hc0
  have HB := aM (Below.refl w.heap.size w)
  have H := h
  unfold laws_toCallS.f at H
  clear h
  replace H := ifP H; obtain ⟨c2, H⟩ := H
  have c2b0 := eq_true c2
  have c2b1 := decide_eq_true c2
  clear c2
  replace H := ifP H; obtain ⟨c3, H⟩ := H
  have c3b0 := eq_true c3
  have c3b1 := decide_eq_true c3
  clear c3
  obtain ⟨y101, hy101⟩ : ∃ y_ : List (S73), y_ = (List.replicate ((l0.length : Int) : Int).toNat z73) := ⟨_, rfl⟩
  replace H : (laws_toCallS.l0 k l0 y101 0) = some r := yH H hy101
  have Ny101 := aM hy101
  clear hy101
  have H' := aM H
  clear H
  go_enter Tryz.func46, Tryz.ntmps46
  go_wp2_with (first | ((with_reducible refine gate_dst (N := 7) rfl ?_); refine Kd.S_make k73 _ 73 rfl (N := 7) rfl 40 _ _ rfl (l0.length : Int) rfl rfl Tryz.underlying40 (.agg #[(.int .i64 0), (.int .i64 0), (.int .i64 0), (.int .i64 0), (.int .i64 0), (.int .i64 0), (.int .i64 0), (.int .i64 0), (.slice none 0 0)]) 88 info73 rfl (by decide) (by omega) z73 (ok := fun _ => True) (okp := fun _ => True) (k73_mkM _ _ _ z73 (Kd.R_nil _ _ _ _ _)) (fun _ hk => hk) trivial (odA) (Nat.le_trans (Nat.mul_le_mul_right _ (odA : (l0.length : Int).toNat ≤ 3198579280802)) (by omega)) (Below.refl _ _) (Nat.le_refl _) ?_; intro vz1 wz1 hoz1 hb hg_ hnew_; clear hg_ hnew_; (first | rw [← Ny101.out] at hoz1 | (simp only [Int.reduceToNat] at hoz1; rw [← Ny101.out] at hoz1)); have HOz1 := aM (Kd.S_lower hoz1 (below_size (hX HB.out))); replace HB := aS HB hb; clear hb hoz1))
  go_loopg [4] k (fun kq v4 w' => ∃ (x3_1 : List (S73)) (x4_1 : Int), v4 = .int .i64 x4_1 ∧ Aside0 (laws_toCallS.l0 kq l0 x3_1 x4_1 = some r) ∧ Aside0 (kq ≤ k) ∧ Aside0 (Kd.S k73 73 w' w.heap.size (fun _ => True) vz1 x3_1) ∧ Aside0 (Below w.heap.size w w'))
  case atStart => exact ⟨(y101), (0), rS, H', ⟨Nat.le_refl _⟩, ⟨(sX HOz1.out)⟩, ⟨(hX HB.out)⟩⟩
  case round =>
    clear H'
    try clear c2
    try clear c2b0
    try clear c2b1
    try clear p2
    try clear c3
    try clear c3b0
    try clear c3b1
    obtain ⟨x3_1, x4_1, rfl, HA, HKy1, HO_y1, HB⟩ := hrel
    cases gk with
    | zero => exact absurd HA.out (by simp [laws_toCallS.l0])
    | succ k1 =>
      have H := HA.out
      clear HA
      simp only [laws_toCallS.l0] at H
      by_cases c6 : x4_1 < (l0.length : Int)
      case neg =>
        rw [if_neg c6] at H
        have c6b0 := decide_eq_false c6
        clear c6
        obtain rfl := sI H
        go_wp2
        go_ret
        exact ⟨_, rE, (sX HO_y1.out), (hX HB.out)⟩
      rw [if_pos c6] at H
      have c6b0 := decide_eq_true c6
      clear c6
      replace H := ifP H; obtain ⟨c7, H⟩ := H
      have c7b0 := decide_eq_true c7
      clear c7
      replace H := bE H; obtain ⟨⟨t105, t106, t107, t108, t109, t110, t111, t112, t113⟩, A8, H⟩ := H
      try dsimp only at H
      replace H := ifP H; obtain ⟨c9, H⟩ := H
      have c9b0 := decide_eq_true c9
      clear c9
      obtain ⟨y116, hy116⟩ : ∃ y_ : List (S73), y_ = (x3_1.set (x4_1 : Int).toNat (⟨t105, (⟨t106, t107, t108⟩ : S69), t109, t110, t111, (⟨t112, t113⟩ : S71)⟩ : S73)) := ⟨_, rfl⟩
      replace H : (laws_toCallS.l0 k1 l0 y116 (wrap64 (x4_1 + 1))) = some r := yH H hy116
      have Ny116 := aM hy116
      clear hy116
      have H' := aM H
      clear H
      have px1 : 0 ≤ (x4_1 : Int) := odA
      have qx1 : x4_1 < (l0.length : Int) := odA
      obtain ⟨adx1, Ax1, cx1, ex1, hxx1, hxx2, hxx3, hxx4, hxx5, hxx6, hxx7, hxx8, hxx9, hlx1, hix1⟩ := at_T119b HR0.out HB.out x4_1 px1 qx1
      cases ex1
      have HRx1 := aM hix1
      have HCx1 := aM hlx1
      clear hix1 hlx1
      replace px1 := eq_true px1
      replace qx1 := eq_true qx1
      go_wp2_with (first | (refine goesM 100 20 Tryz.func100 #[.agg #[.int .i64 ((rd_T119 l0 x4_1).f0), .int .i64 ((rd_T119 l0 x4_1).f1.f0), .int .i64 ((rd_T119 l0 x4_1).f1.f1), .int .i64 ((rd_T119 l0 x4_1).f1.f2), .int .i64 ((rd_T119 l0 x4_1).f2), .int .i64 ((rd_T119 l0 x4_1).f3), .int .i64 ((rd_T119 l0 x4_1).f4), .int .i64 ((rd_T119 l0 x4_1).f5.f0), .slice Ax1 ((rd_T119 l0 x4_1).f5.f1).length cx1]] ?_; refine (laws_toCall.calls _ _ _ _ _ _ _ _ _ _ _ _ _ _ _ _ _ _ _ _ _ _ (cC HRx1.out HB.out) HCx1.out A8.out).mono ?_; rintro e wx1 ⟨vx1, rfl, hox1, hb⟩; refine ⟨_, rfl, ?_⟩; have HOx1 := aM (Kd.R_lower hox1 (below_size (hX HB.out))); replace HO_y1 := aM (Kd.S_elder' (sX HO_y1.out) (Kd.R_base hox1) hb); replace HB := aS HB hb; clear hb hox1; have px2 : 0 ≤ (x4_1 : Int) := odA; have qx2 : (x4_1 : Int) < ((x3_1.length : Int) : Int) := odA; obtain ⟨gox1, cox1, eox1, gbx1, glx1, clx1, HGx1⟩ := Kd.S_form HO_y1.out (by omega); (first | cases eox1 | (injection eox1 with ea_ en_ ec_; (first | subst ea_ | (injection ea_ with ea_; subst ea_)); subst ec_; clear en_)); have GBx1 := aM gbx1; have GGx1 := aM HGx1; clear gbx1 glx1 HGx1; obtain ⟨_, cex1, hclx1, hMx1, hccx1, hfrx1, _, _⟩ := Kd.S_elem HO_y1.out z73 (x4_1 : Int) px2 qx2; obtain ⟨vex1, rfl, gex1⟩ := k73_openM hMx1; have hxx10 : wx1.cell? ⟨gox1, (x4_1 : Int).toNat * 9, none⟩ = some (.int .i64 ((rd_T73 x3_1 x4_1).f0)) := hccx1 0 _ rfl; have hxx11 : wx1.cell? ⟨gox1, (x4_1 : Int).toNat * 9 + 1, none⟩ = some (.int .i64 ((rd_T73 x3_1 x4_1).f1.f0)) := hccx1 1 _ rfl; have hxx12 : wx1.cell? ⟨gox1, (x4_1 : Int).toNat * 9 + 2, none⟩ = some (.int .i64 ((rd_T73 x3_1 x4_1).f1.f1)) := hccx1 2 _ rfl; have hxx13 : wx1.cell? ⟨gox1, (x4_1 : Int).toNat * 9 + 3, none⟩ = some (.int .i64 ((rd_T73 x3_1 x4_1).f1.f2)) := hccx1 3 _ rfl; have hxx14 : wx1.cell? ⟨gox1, (x4_1 : Int).toNat * 9 + 4, none⟩ = some (.int .i64 ((rd_T73 x3_1 x4_1).f2)) := hccx1 4 _ rfl; have hxx15 : wx1.cell? ⟨gox1, (x4_1 : Int).toNat * 9 + 5, none⟩ = some (.int .i64 ((rd_T73 x3_1 x4_1).f3)) := hccx1 5 _ rfl; have hxx16 : wx1.cell? ⟨gox1, (x4_1 : Int).toNat * 9 + 6, none⟩ = some (.int .i64 ((rd_T73 x3_1 x4_1).f4)) := hccx1 6 _ rfl; have hxx17 : wx1.cell? ⟨gox1, (x4_1 : Int).toNat * 9 + 7, none⟩ = some (.int .i64 ((rd_T73 x3_1 x4_1).f5.f0)) := hccx1 7 _ rfl; have hxx18 : wx1.cell? ⟨gox1, (x4_1 : Int).toNat * 9 + 8, none⟩ = some (vex1) := hccx1 8 _ rfl; have hfx1 : wx1.frozen? ⟨gox1, (x4_1 : Int).toNat * 9, none⟩ = false := hfrx1 0; have hfx2 : wx1.frozen? ⟨gox1, (x4_1 : Int).toNat * 9 + 1, none⟩ = false := hfrx1 1; have hfx3 : wx1.frozen? ⟨gox1, (x4_1 : Int).toNat * 9 + 2, none⟩ = false := hfrx1 2; have hfx4 : wx1.frozen? ⟨gox1, (x4_1 : Int).toNat * 9 + 3, none⟩ = false := hfrx1 3; have hfx5 : wx1.frozen? ⟨gox1, (x4_1 : Int).toNat * 9 + 4, none⟩ = false := hfrx1 4; have hfx6 : wx1.frozen? ⟨gox1, (x4_1 : Int).toNat * 9 + 5, none⟩ = false := hfrx1 5; have hfx7 : wx1.frozen? ⟨gox1, (x4_1 : Int).toNat * 9 + 6, none⟩ = false := hfrx1 6; have hfx8 : wx1.frozen? ⟨gox1, (x4_1 : Int).toNat * 9 + 7, none⟩ = false := hfrx1 7; have hfx9 : wx1.frozen? ⟨gox1, (x4_1 : Int).toNat * 9 + 8, none⟩ = false := hfrx1 8; clear hclx1 hccx1 hfrx1 hMx1; replace px2 := eq_true px2; replace qx2 := eq_true qx2; obtain ⟨Aox1, cox2, eox2⟩ := Kd.R_slice HOx1.out; subst eox2; have n_ := aM (Kd.S_mono (ok' := (fun k_ => some k_ ≠ (.slice Aox1 t113.length cox2 : Value).ownBlock)) HO_y1.out (fun k_ hk => hk.2)); clear HO_y1; have HO_y1 := n_; clear n_; have HXx1 := aM (show Kd.S k73 73 wx1 w.heap.size (fun k_ => ((fun _ => True)) k_ ∧ ¬ ((fun k_ => some k_ = (.slice Aox1 t113.length cox2 : Value).ownBlock)) k_) (.slice (some ⟨gox1, 0, none⟩) x3_1.length cox1) x3_1 from (by (with_reducible repeat (first | apply Kd.S_alloc | apply Kd.S_drewN | apply Kd.S_drew)); exact Kd.S_mono HO_y1.out (fun k_ hk => ⟨trivial, fun e_ => hk e_⟩))); obtain ⟨okix1, cex2, hclx2, hMx2, hccx2, hfrx2, hokix1, hHx1⟩ := Kd.S_elem HXx1.out z73 (x4_1 : Int) (odA) (by have h_ : (x4_1 : Int) < ((x3_1.length : Int) : Int) := odA; first | exact h_ | (have e_ := (Kd.S_reads' HO_y1.out).1; omega) | simpa using h_); obtain ⟨vex2, rfl, gex2⟩ := k73_openM hMx2; have HPx1 := Kd.S_seg hHx1 (odA) (by have h_ : (x4_1 : Int) < ((x3_1.length : Int) : Int) := odA; first | exact h_ | (have e_ := (Kd.S_reads' HO_y1.out).1; omega) | simpa using h_) (seg := [.int .i64 t105, .int .i64 t106, .int .i64 t107, .int .i64 t108, .int .i64 t109, .int .i64 t110, .int .i64 t111, .int .i64 t112, .slice Aox1 t113.length cox2]) (j := 0) (show 9 ≤ 9 from by decide) (x' := (⟨t105, (⟨t106, t107, t108⟩ : S69), t109, t110, t111, (⟨t112, t113⟩ : S71)⟩ : S73)) (k73_mkM _ _ _ (⟨t105, (⟨t106, t107, t108⟩ : S69), t109, t110, t111, (⟨t112, t113⟩ : S71)⟩ : S73) (Kd.R_mono (Kd.R_tight rfl (Kd.R_mono (ok' := fun k_ => ((fun _ => True)) k_ ∧ k_ ≠ gox1) (Kd.R_apart' (HOx1.out) (Kd.S_typed HO_y1.out) (by decide)) (fun k_ hk => ⟨trivial, fun e_ => (hk.2) (by rw [e_]; rfl)⟩))) (fun _ h_ => Or.inr (h_)))) (fun _ hk => hk) (fun k_ hk_ => ((Kd.R_mono (ok' := fun k_ => ((fun _ => True)) k_ ∧ k_ ≠ gox1) (Kd.R_apart' (HOx1.out) (Kd.S_typed HO_y1.out) (by decide)) (fun k_ hk => ⟨trivial, fun e_ => (hk.2) (by rw [e_]; rfl)⟩))).1 k_ hk_.symm); have hxx19 := hccx2 0 _ rfl; (try simp only [show (k73).sz = 9 from rfl, Nat.mul_one, Nat.add_zero] at hxx19); have hfx10 := hfrx2 0; (try simp only [show (k73).sz = 9 from rfl, Nat.mul_one, Nat.add_zero] at hfx10); have hxx20 := hccx2 1 _ rfl; (try simp only [show (k73).sz = 9 from rfl, Nat.mul_one, Nat.add_zero] at hxx20); have hfx11 := hfrx2 1; (try simp only [show (k73).sz = 9 from rfl, Nat.mul_one, Nat.add_zero] at hfx11); have hxx21 := hccx2 2 _ rfl; (try simp only [show (k73).sz = 9 from rfl, Nat.mul_one, Nat.add_zero] at hxx21); have hfx12 := hfrx2 2; (try simp only [show (k73).sz = 9 from rfl, Nat.mul_one, Nat.add_zero] at hfx12); have hxx22 := hccx2 3 _ rfl; (try simp only [show (k73).sz = 9 from rfl, Nat.mul_one, Nat.add_zero] at hxx22); have hfx13 := hfrx2 3; (try simp only [show (k73).sz = 9 from rfl, Nat.mul_one, Nat.add_zero] at hfx13); have hxx23 := hccx2 4 _ rfl; (try simp only [show (k73).sz = 9 from rfl, Nat.mul_one, Nat.add_zero] at hxx23); have hfx14 := hfrx2 4; (try simp only [show (k73).sz = 9 from rfl, Nat.mul_one, Nat.add_zero] at hfx14); have hxx24 := hccx2 5 _ rfl; (try simp only [show (k73).sz = 9 from rfl, Nat.mul_one, Nat.add_zero] at hxx24); have hfx15 := hfrx2 5; (try simp only [show (k73).sz = 9 from rfl, Nat.mul_one, Nat.add_zero] at hfx15); have hxx25 := hccx2 6 _ rfl; (try simp only [show (k73).sz = 9 from rfl, Nat.mul_one, Nat.add_zero] at hxx25); have hfx16 := hfrx2 6; (try simp only [show (k73).sz = 9 from rfl, Nat.mul_one, Nat.add_zero] at hfx16); have hxx26 := hccx2 7 _ rfl; (try simp only [show (k73).sz = 9 from rfl, Nat.mul_one, Nat.add_zero] at hxx26); have hfx17 := hfrx2 7; (try simp only [show (k73).sz = 9 from rfl, Nat.mul_one, Nat.add_zero] at hfx17); have hxx27 := hccx2 8 _ rfl; (try simp only [show (k73).sz = 9 from rfl, Nat.mul_one, Nat.add_zero] at hxx27); have hfx18 := hfrx2 8; (try simp only [show (k73).sz = 9 from rfl, Nat.mul_one, Nat.add_zero] at hfx18); clear hclx2 hccx2 hfrx2 hMx2 hokix1 hHx1) | ((with_reducible refine gate_store (t := 73) (p := 21) rfl ?_); refine store_event (t := 73) (p := 21) (v := ?vo_wx2) (w1 := (((((((((wx1.setCell ⟨gox1, (x4_1 : Int).toNat * 9, none⟩ (.int .i64 t105)).setCell ⟨gox1, (x4_1 : Int).toNat * 9 + 1, none⟩ (.int .i64 t106)).setCell ⟨gox1, (x4_1 : Int).toNat * 9 + 2, none⟩ (.int .i64 t107)).setCell ⟨gox1, (x4_1 : Int).toNat * 9 + 3, none⟩ (.int .i64 t108)).setCell ⟨gox1, (x4_1 : Int).toNat * 9 + 4, none⟩ (.int .i64 t109)).setCell ⟨gox1, (x4_1 : Int).toNat * 9 + 5, none⟩ (.int .i64 t110)).setCell ⟨gox1, (x4_1 : Int).toNat * 9 + 6, none⟩ (.int .i64 t111)).setCell ⟨gox1, (x4_1 : Int).toNat * 9 + 7, none⟩ (.int .i64 t112)).setCell ⟨gox1, (x4_1 : Int).toNat * 9 + 8, none⟩ (.slice Aox1 t113.length cox2))) ?hg ?ho ?hn ?hr ?_; (case ho => rfl); (case hg => rfl); (case hn => rfl); (case hr => first | (go_simp; done) | (go_simp; rfl)); intro wx2 hw; have hg : wx1.grownBy wx2 (some gox1) := (by rw [hw]; exact HPx1.2); have hp_ : Kd.S k73 73 wx2 w.heap.size (fun _ => True) (.slice (some ⟨gox1, 0, none⟩) x3_1.length cox1) y116 := (by rw [hw, Ny116.out]; exact HPx1.1); clear HPx1; replace HO_y1 := aM (hp_); replace HB := aM ((by rw [hw]; exact below_set (below_set (below_set (below_set (below_set (below_set (below_set (below_set (below_set (HB.out) GBx1.out) GBx1.out) GBx1.out) GBx1.out) GBx1.out) GBx1.out) GBx1.out) GBx1.out) GBx1.out : Below w.heap.size w wx2)); clear HOx1; clear hg hw hp_))
      go_roundg k1
      case measure => have := HKy1.out; omega
      case rel => exact ⟨(y116), (wrap64 (x4_1 + 1)), rS, H', ⟨by have := HKy1.out; omega⟩, ⟨(sX HO_y1.out)⟩, ⟨(hX HB.out)⟩⟩
def laws_toMachine.f (k : Nat) (l0_0 : List (S176)) (l0_1 : List (S155)) (l0_2 : List (S114)) (a0_3 : Int) (l0_4 : List (S119)) (l0_5 : List Int) (l0_6 : List Int) (a0_7 : Int) : Option ((List (S140)) × (List (S162)) × (List (S97)) × Int × (List (S73)) × List Int × List Int × Int) := (laws_toMem.f k l0_0 l0_1).bind fun bt104 => ((laws_toThreadS.f k l0_2).bind fun t110 => ((laws_toCallS.f k l0_4).bind fun t113 => ((laws_toIntS.f k l0_5).bind fun t116 => ((laws_toRows.f k l0_6 a0_7).bind fun bt119 => (some (bt104.1, bt104.2, t110, a0_3, t113, t116, bt119.1, bt119.2))))))
set_option maxHeartbeats 8000000 in
set_option maxRecDepth 100000 in
theorem laws_toMachine.calls (k : Nat) (A0_0 : Option Addr) (c0_0 : Nat) (l0_0 : List (S176)) (A0_1 : Option Addr) (c0_1 : Nat) (l0_1 : List (S155)) (A0_2 : Option Addr) (c0_2 : Nat) (l0_2 : List (S114)) (a0_3 : Int) (A0_4 : Option Addr) (c0_4 : Nat) (l0_4 : List (S119)) (A0_5 : Option Addr) (c0_5 : Nat) (l0_5 : List Int) (A0_6 : Option Addr) (c0_6 : Nat) (l0_6 : List Int) (a0_7 : Int) (r1 : List (S140)) (r2 : List (S162)) (r3 : List (S97)) (r4 : Int) (r5 : List (S73)) (r6 : List Int) (r7 : List Int) (r8 : Int) (w : World) (hr0_0 : Kd.C k176 w A0_0 l0_0.length l0_0) (hc0_0 : l0_0.length ≤ c0_0) (hr0_1 : Kd.C k155 w A0_1 l0_1.length l0_1) (hc0_1 : l0_1.length ≤ c0_1) (hr0_2 : Kd.C k114 w A0_2 l0_2.length l0_2) (hc0_2 : l0_2.length ≤ c0_2) (hr0_4 : Kd.C k119 w A0_4 l0_4.length l0_4) (hc0_4 : l0_4.length ≤ c0_4) (hr0_5 : Kd.C (Kd.int .i64) w A0_5 l0_5.length l0_5) (hc0_5 : l0_5.length ≤ c0_5) (hr0_6 : Kd.C (Kd.int .i64) w A0_6 l0_6.length l0_6) (hc0_6 : l0_6.length ≤ c0_6) (h : laws_toMachine.f k l0_0 l0_1 l0_2 a0_3 l0_4 l0_5 l0_6 a0_7 = some (r1, r2, r3, r4, r5, r6, r7, r8)) :
    Calls Tryz.prog 12 #[.agg #[.slice A0_0 l0_0.length c0_0, .slice A0_1 l0_1.length c0_1, .slice A0_2 l0_2.length c0_2, .int .i64 a0_3, .slice A0_4 l0_4.length c0_4, .slice A0_5 l0_5.length c0_5, .slice A0_6 l0_6.length c0_6, .int .i64 a0_7]] w fun e w' => ∃ v0_ v1_ v2_ v4_ v5_ v6_ : Value, e = .returned (.agg #[v0_, v1_, v2_, .int .i64 r4, v4_, v5_, v6_, .int .i64 r8]) ∧ Kd.R k140 140 w' w.heap.size (fun _ => True) v0_ r1 ∧ Kd.S k162 162 w' w.heap.size (fun k_ => some k_ ≠ (v5_ : Value).ownBlock ∧ some k_ ≠ (v6_ : Value).ownBlock) v1_ r2 ∧ Kd.S k97 97 w' w.heap.size (fun _ => True) v2_ r3 ∧ Kd.S k73 73 w' w.heap.size (fun k_ => some k_ ≠ (v5_ : Value).ownBlock ∧ some k_ ≠ (v6_ : Value).ownBlock) v4_ r5 ∧ Kd.R (Kd.int .i64) 3 w' w.heap.size (fun k_ => some k_ ≠ (v6_ : Value).ownBlock) v5_ r6 ∧ Kd.R (Kd.int .i64) 3 w' w.heap.size (fun k_ => some k_ ≠ (v5_ : Value).ownBlock) v6_ r7 ∧ Below w.heap.size w w' := by
  have hu32 := Tryz.underlying32
  have hu43 := Tryz.underlying43
  have hu25 := Tryz.underlying25
  have hu38 := Tryz.underlying38
  have hu30 := Tryz.underlying30
  have hu41 := Tryz.underlying41
  have HR0_0 := aM hr0_0
  have HC0_0 := aM hc0_0
  clear hr0_0 hc0_0
  have HR0_1 := aM hr0_1
  have HC0_1 := aM hc0_1
  clear hr0_1 hc0_1
  have HR0_2 := aM hr0_2
  have HC0_2 := aM hc0_2
  clear hr0_2 hc0_2
  have HR0_4 := aM hr0_4
  have HC0_4 := aM hc0_4
  clear hr0_4 hc0_4
  have HR0_5 := aM hr0_5
  have HC0_5 := aM hc0_5
  clear hr0_5 hc0_5
  have HR0_6 := aM hr0_6
  have HC0_6 := aM hc0_6
  clear hr0_6 hc0_6
  have HB := aM (Below.refl w.heap.size w)
  have H := h
  unfold laws_toMachine.f at H
  clear h
  replace H := bE H; obtain ⟨⟨t104, t107⟩, A2, H⟩ := H
  try dsimp only at H
  replace H := bE H; obtain ⟨t110, A3, H⟩ := H
  replace H := bE H; obtain ⟨t113, A4, H⟩ := H
  replace H := bE H; obtain ⟨t116, A5, H⟩ := H
  replace H := bE H; obtain ⟨⟨t119, t122⟩, A6, H⟩ := H
  try dsimp only at H
  simp only [Option.some.injEq, Prod.mk.injEq] at H
  obtain ⟨rfl, rfl, rfl, rfl, rfl, rfl, rfl, rfl⟩ := H
  go_enter Tryz.func12, Tryz.ntmps12
  go_wp2_with (first | (refine boxE 1 #[.slice A0_0 l0_0.length c0_0, .slice A0_1 l0_1.length c0_1, .slice A0_2 l0_2.length c0_2, .int .i64 a0_3, .slice A0_4 l0_4.length c0_4, .slice A0_5 l0_5.length c0_5, .slice A0_6 l0_6.length c0_6, .int .i64 a0_7] 32 ?_; intro gbz1 hg wz1 hbox hb; have BKz1 := aM (hbox); have GWz1 := aG hg HB; have GEz1 := aG hg HB; replace HB := aS HB hb; clear hb hbox hg) | (refine boxE 2 #[.slice none 0 0, .slice none 0 0, .slice none 0 0, .int .i64 0, .slice none 0 0, .slice none 0 0, .slice none 0 0, .int .i64 0] 43 ?_; intro gbz2 hg wz2 hbox hb; have BKz2 := aM (hbox); have GWz2 := aG hg HB; have GEz2 := aG hg HB; have NBz1 := aL hg BKz1; have NBz2 := aR hg BKz1; replace BKz1 := aB BKz1 hb; replace HB := aS HB hb; clear hb hbox hg) | (refine boxE 3 #[.slice none 0 0, .slice none 0 0, .slice none 0 0, .int .i64 0, .slice none 0 0, .slice none 0 0, .slice none 0 0, .int .i64 0] 43 ?_; intro gbz3 hg wz3 hbox hb; have BKz3 := aM (hbox); have GWz3 := aG hg HB; have GEz3 := aG hg HB; have NBz3 := aL hg BKz1; have NBz4 := aR hg BKz1; have NBz5 := aL hg BKz2; have NBz6 := aR hg BKz2; replace BKz1 := aB BKz1 hb; replace BKz2 := aB BKz2 hb; replace HB := aS HB hb; clear hb hbox hg; have hnbz1 := NBz1.out; have hncz1 := NBz2.out; have hnbz2 := NBz3.out; have hncz2 := NBz4.out; obtain ⟨hczz1, hczz2, hczz3, hczz4, hczz5, hczz6, hczz7, hczz8, hfzz1, hfzz2, hfzz3, hfzz4, hfzz5, hfzz6, hfzz7, hfzz8⟩ := cZ8 BKz1.out) | (refine goesM 44 6 Tryz.func44 #[.agg #[.slice A0_0 l0_0.length c0_0, .slice A0_1 l0_1.length c0_1]] ?_; refine (laws_toMem.calls _ _ _ _ _ _ _ _ _ _ (cC HR0_0.out HB.out) HC0_0.out (cC HR0_1.out HB.out) HC0_1.out A2.out).mono ?_; rintro e wz4 ⟨vz1, vz2, rfl, hoz1, hoz2, hb⟩; refine ⟨_, rfl, ?_⟩; have HOz1 := aM (Kd.R_lower hoz1 (below_size (hX HB.out))); have HOz2 := aM (Kd.S_lower hoz2 (below_size (hX HB.out))); replace BKz1 := aB BKz1 hb; replace BKz2 := aB BKz2 hb; replace BKz3 := aB BKz3 hb; replace HB := aS HB hb; clear hb hoz1 hoz2; obtain ⟨Aoz1, coz1, eoz1⟩ := Kd.R_slice HOz1.out; subst eoz1; have hnbz3 := NBz6.out; have hncz3 := NBz5.out; obtain ⟨hczz9, hczz10, hczz11, hczz12, hczz13, hczz14, hczz15, hczz16, hfzz9, hfzz10, hfzz11, hfzz12, hfzz13, hfzz14, hfzz15, hfzz16⟩ := cZ8 BKz3.out; obtain ⟨Aoz2, coz2, eoz2⟩ := Kd.S_slice HOz2.out; subst eoz2; obtain ⟨hczz17, hczz18, hczz19, hczz20, hczz21, hczz22, hczz23, hczz24, hfzz17, hfzz18, hfzz19, hfzz20, hfzz21, hfzz22, hfzz23, hfzz24⟩ := cZ8 BKz1.out) | (refine goesM 45 10 Tryz.func45 #[.slice A0_2 l0_2.length c0_2] ?_; refine (laws_toThreadS.calls k _ _ l0_2 t110 _ (by exact Kd.C_below HR0_2.out (hX HB.out)) HC0_2.out A3.out).mono ?_; rintro e wz5 ⟨vz3, rfl, hoz1, hb⟩; refine ⟨_, rfl, ?_⟩; have HOz3 := aM (Kd.S_lower hoz1 (below_size (hX HB.out))); replace HOz1 := aM (Kd.R_below (rF HOz1.out BKz3.out) hb); replace HOz2 := aM (Kd.S_below (sF HOz2.out BKz3.out) hb); replace BKz1 := aF BKz1 hb; replace BKz2 := aF BKz2 hb; replace BKz3 := aM (blk_below (g := gbz3) (o := .cells #[.slice Aoz1 t104.length coz1, .slice Aoz2 t107.length coz2, .slice none 0 0, .int .i64 0, .slice none 0 0, .slice none 0 0, .slice none 0 0, .int .i64 0] 43 (0, 0)) (bP BKz3.out) hb); replace HB := aS HB hb; clear hb hoz1; obtain ⟨Aoz3, coz3, eoz3⟩ := Kd.S_slice HOz3.out; subst eoz3; obtain ⟨hczz25, hczz26, hczz27, hczz28, hczz29, hczz30, hczz31, hczz32, hfzz25, hfzz26, hfzz27, hfzz28, hfzz29, hfzz30, hfzz31, hfzz32⟩ := cZ8 BKz3.out; obtain ⟨hczz33, hczz34, hczz35, hczz36, hczz37, hczz38, hczz39, hczz40, hfzz33, hfzz34, hfzz35, hfzz36, hfzz37, hfzz38, hfzz39, hfzz40⟩ := cZ8 BKz1.out) | (refine goesM 46 17 Tryz.func46 #[.slice A0_4 l0_4.length c0_4] ?_; refine (laws_toCallS.calls k _ _ l0_4 t113 _ (by exact Kd.C_below HR0_4.out (hX HB.out)) HC0_4.out A4.out).mono ?_; rintro e wz6 ⟨vz4, rfl, hoz1, hb⟩; refine ⟨_, rfl, ?_⟩; have HOz4 := aM (Kd.S_lower hoz1 (below_size (hX HB.out))); replace HOz1 := aM (Kd.R_below (rF HOz1.out BKz3.out) hb); replace HOz2 := aM (Kd.S_below (sF HOz2.out BKz3.out) hb); replace HOz3 := aM (Kd.S_below (sF HOz3.out BKz3.out) hb); replace BKz1 := aF BKz1 hb; replace BKz2 := aF BKz2 hb; replace BKz3 := aM (blk_below (g := gbz3) (o := .cells #[.slice Aoz1 t104.length coz1, .slice Aoz2 t107.length coz2, .slice Aoz3 t110.length coz3, .int .i64 a0_3, .slice none 0 0, .slice none 0 0, .slice none 0 0, .int .i64 0] 43 (0, 0)) (bP BKz3.out) hb); replace HB := aS HB hb; clear hb hoz1; obtain ⟨Aoz4, coz4, eoz4⟩ := Kd.S_slice HOz4.out; subst eoz4; obtain ⟨hczz41, hczz42, hczz43, hczz44, hczz45, hczz46, hczz47, hczz48, hfzz41, hfzz42, hfzz43, hfzz44, hfzz45, hfzz46, hfzz47, hfzz48⟩ := cZ8 BKz3.out; obtain ⟨hczz49, hczz50, hczz51, hczz52, hczz53, hczz54, hczz55, hczz56, hfzz49, hfzz50, hfzz51, hfzz52, hfzz53, hfzz54, hfzz55, hfzz56⟩ := cZ8 BKz1.out) | (refine goesM 47 21 Tryz.func47 #[.slice A0_5 l0_5.length c0_5] ?_; refine (laws_toIntS.calls k _ _ l0_5 t116 _ (by exact Kd.C_below HR0_5.out (hX HB.out)) HC0_5.out A5.out).mono ?_; rintro e wz7 ⟨vz5, rfl, hoz1, hb⟩; refine ⟨_, rfl, ?_⟩; have HOz5 := aM (Kd.R_lower hoz1 (below_size (hX HB.out))); replace HOz1 := aM (Kd.R_below (rF HOz1.out BKz3.out) hb); replace HOz2 := aM (Kd.S_elder' (sF HOz2.out BKz3.out) (Kd.R_base hoz1) hb); replace HOz3 := aM (Kd.S_below (sF HOz3.out BKz3.out) hb); replace HOz4 := aM (Kd.S_elder' (sF HOz4.out BKz3.out) (Kd.R_base hoz1) hb); replace BKz1 := aF BKz1 hb; replace BKz2 := aF BKz2 hb; replace BKz3 := aM (blk_below (g := gbz3) (o := .cells #[.slice Aoz1 t104.length coz1, .slice Aoz2 t107.length coz2, .slice Aoz3 t110.length coz3, .int .i64 a0_3, .slice Aoz4 t113.length coz4, .slice none 0 0, .slice none 0 0, .int .i64 0] 43 (0, 0)) (bP BKz3.out) hb); replace HB := aS HB hb; clear hb hoz1; obtain ⟨Aoz5, coz5, eoz5⟩ := Kd.R_slice HOz5.out; subst eoz5; obtain ⟨hczz57, hczz58, hczz59, hczz60, hczz61, hczz62, hczz63, hczz64, hfzz57, hfzz58, hfzz59, hfzz60, hfzz61, hfzz62, hfzz63, hfzz64⟩ := cZ8 BKz3.out; obtain ⟨hczz65, hczz66, hczz67, hczz68, hczz69, hczz70, hczz71, hczz72, hfzz65, hfzz66, hfzz67, hfzz68, hfzz69, hfzz70, hfzz71, hfzz72⟩ := cZ8 BKz1.out) | (refine goesM 20 25 Tryz.func20 #[.agg #[.slice A0_6 l0_6.length c0_6, .int .i64 a0_7]] ?_; refine (laws_toRows.calls k _ _ l0_6 a0_7 t119 t122 _ (by exact Kd.C_below HR0_6.out (hX HB.out)) HC0_6.out A6.out).mono ?_; rintro e wz8 ⟨vz6, rfl, hoz1, hb⟩; refine ⟨_, rfl, ?_⟩; have HOz6 := aM (Kd.R_lower (Kd.R_new' hoz1 (Kd.R_lt (rF HOz5.out BKz3.out))) (below_size (hX HB.out))); replace HOz1 := aM (Kd.R_below (rF HOz1.out BKz3.out) hb); replace HOz2 := aM (Kd.S_elder' (sF HOz2.out BKz3.out) (Kd.R_base hoz1) hb); replace HOz3 := aM (Kd.S_below (sF HOz3.out BKz3.out) hb); replace HOz4 := aM (Kd.S_elder' (sF HOz4.out BKz3.out) (Kd.R_base hoz1) hb); replace HOz5 := aM (Kd.R_elder' (rF HOz5.out BKz3.out) (Kd.R_base hoz1) hb); replace BKz1 := aF BKz1 hb; replace BKz2 := aF BKz2 hb; replace BKz3 := aM (blk_below (g := gbz3) (o := .cells #[.slice Aoz1 t104.length coz1, .slice Aoz2 t107.length coz2, .slice Aoz3 t110.length coz3, .int .i64 a0_3, .slice Aoz4 t113.length coz4, .slice Aoz5 t116.length coz5, .slice none 0 0, .int .i64 0] 43 (0, 0)) (bP BKz3.out) hb); replace HB := aS HB hb; clear hb hoz1; obtain ⟨Aoz6, coz6, eoz6⟩ := Kd.R_slice HOz6.out; subst eoz6; obtain ⟨hczz73, hczz74, hczz75, hczz76, hczz77, hczz78, hczz79, hczz80, hfzz73, hfzz74, hfzz75, hfzz76, hfzz77, hfzz78, hfzz79, hfzz80⟩ := cZ8 BKz3.out; obtain ⟨hczz81, hczz82, hczz83, hczz84, hczz85, hczz86, hczz87, hczz88, hfzz81, hfzz82, hfzz83, hfzz84, hfzz85, hfzz86, hfzz87, hfzz88⟩ := cZ8 BKz2.out))
  refine bodyPost_ret (results_cell_row rfl _ _ gbz2 43 #[.slice Aoz1 t104.length coz1, .slice Aoz2 t107.length coz2, .slice Aoz3 t110.length coz3, .int .i64 a0_3, .slice Aoz4 t113.length coz4, .slice Aoz5 t116.length coz5, .slice Aoz6 t119.length coz6, .int .i64 t122] (0, 0) _ rfl (bP BKz2.out) Tryz.underlying43 rfl (by kernel_rfl)) rfl ?_
  exact ⟨_, _, _, _, _, _, rE, (rT (h := by exact Kd.R_mono (Kd.R_far (p := ⟨gbz2, 7, none⟩) (Kd.R_far (p := ⟨gbz2, 6, none⟩) (Kd.R_far (p := ⟨gbz2, 5, none⟩) (Kd.R_far (p := ⟨gbz2, 4, none⟩) (Kd.R_far (p := ⟨gbz2, 3, none⟩) (Kd.R_far (p := ⟨gbz2, 2, none⟩) (Kd.R_far (p := ⟨gbz2, 1, none⟩) (Kd.R_far (p := ⟨gbz2, 0, none⟩) (Kd.R_far (p := ⟨gbz3, 7, none⟩) (Kd.R_far (p := ⟨gbz3, 6, none⟩) (Kd.R_types (Kd.R_types HOz1.out BKz3.out (by decide)) BKz2.out (by decide)) (fun _ hk => hk.1.2) (.slice Aoz6 t119.length coz6)) (fun _ hk => hk.1.2) (.int .i64 t122)) (fun _ hk => hk.2) (.slice Aoz1 t104.length coz1)) (fun _ hk => hk.2) (.slice Aoz2 t107.length coz2)) (fun _ hk => hk.2) (.slice Aoz3 t110.length coz3)) (fun _ hk => hk.2) (.int .i64 a0_3)) (fun _ hk => hk.2) (.slice Aoz4 t113.length coz4)) (fun _ hk => hk.2) (.slice Aoz5 t116.length coz5)) (fun _ hk => hk.2) (.slice Aoz6 t119.length coz6)) (fun _ hk => hk.2) (.int .i64 t122)) (fun _ hk => trivial))), by (with_reducible repeat (first | apply Kd.S_alloc | apply Kd.S_drewN | apply Kd.S_drew)); exact Kd.S_mono (Kd.S_far (p := ⟨gbz2, 7, none⟩) (Kd.S_far (p := ⟨gbz2, 6, none⟩) (Kd.S_far (p := ⟨gbz2, 5, none⟩) (Kd.S_far (p := ⟨gbz2, 4, none⟩) (Kd.S_far (p := ⟨gbz2, 3, none⟩) (Kd.S_far (p := ⟨gbz2, 2, none⟩) (Kd.S_far (p := ⟨gbz2, 1, none⟩) (Kd.S_far (p := ⟨gbz2, 0, none⟩) (Kd.S_far (p := ⟨gbz3, 7, none⟩) (Kd.S_far (p := ⟨gbz3, 6, none⟩) (Kd.S_types (Kd.S_types HOz2.out BKz3.out (by decide)) BKz2.out (by decide)) (fun _ hk => hk.1.2) (.slice Aoz6 t119.length coz6)) (fun _ hk => hk.1.2) (.int .i64 t122)) (fun _ hk => hk.2) (.slice Aoz1 t104.length coz1)) (fun _ hk => hk.2) (.slice Aoz2 t107.length coz2)) (fun _ hk => hk.2) (.slice Aoz3 t110.length coz3)) (fun _ hk => hk.2) (.int .i64 a0_3)) (fun _ hk => hk.2) (.slice Aoz4 t113.length coz4)) (fun _ hk => hk.2) (.slice Aoz5 t116.length coz5)) (fun _ hk => hk.2) (.slice Aoz6 t119.length coz6)) (fun _ hk => hk.2) (.int .i64 t122)) (fun _ hk => ⟨hk.1.1.1.2, hk.1.1.2⟩), by (with_reducible repeat (first | apply Kd.S_alloc | apply Kd.S_drewN | apply Kd.S_drew)); exact Kd.S_mono (Kd.S_far (p := ⟨gbz2, 7, none⟩) (Kd.S_far (p := ⟨gbz2, 6, none⟩) (Kd.S_far (p := ⟨gbz2, 5, none⟩) (Kd.S_far (p := ⟨gbz2, 4, none⟩) (Kd.S_far (p := ⟨gbz2, 3, none⟩) (Kd.S_far (p := ⟨gbz2, 2, none⟩) (Kd.S_far (p := ⟨gbz2, 1, none⟩) (Kd.S_far (p := ⟨gbz2, 0, none⟩) (Kd.S_far (p := ⟨gbz3, 7, none⟩) (Kd.S_far (p := ⟨gbz3, 6, none⟩) (Kd.S_types (Kd.S_types HOz3.out BKz3.out (by decide)) BKz2.out (by decide)) (fun _ hk => hk.1.2) (.slice Aoz6 t119.length coz6)) (fun _ hk => hk.1.2) (.int .i64 t122)) (fun _ hk => hk.2) (.slice Aoz1 t104.length coz1)) (fun _ hk => hk.2) (.slice Aoz2 t107.length coz2)) (fun _ hk => hk.2) (.slice Aoz3 t110.length coz3)) (fun _ hk => hk.2) (.int .i64 a0_3)) (fun _ hk => hk.2) (.slice Aoz4 t113.length coz4)) (fun _ hk => hk.2) (.slice Aoz5 t116.length coz5)) (fun _ hk => hk.2) (.slice Aoz6 t119.length coz6)) (fun _ hk => hk.2) (.int .i64 t122)) (fun _ hk => trivial), by (with_reducible repeat (first | apply Kd.S_alloc | apply Kd.S_drewN | apply Kd.S_drew)); exact Kd.S_mono (Kd.S_far (p := ⟨gbz2, 7, none⟩) (Kd.S_far (p := ⟨gbz2, 6, none⟩) (Kd.S_far (p := ⟨gbz2, 5, none⟩) (Kd.S_far (p := ⟨gbz2, 4, none⟩) (Kd.S_far (p := ⟨gbz2, 3, none⟩) (Kd.S_far (p := ⟨gbz2, 2, none⟩) (Kd.S_far (p := ⟨gbz2, 1, none⟩) (Kd.S_far (p := ⟨gbz2, 0, none⟩) (Kd.S_far (p := ⟨gbz3, 7, none⟩) (Kd.S_far (p := ⟨gbz3, 6, none⟩) (Kd.S_types (Kd.S_types HOz4.out BKz3.out (by decide)) BKz2.out (by decide)) (fun _ hk => hk.1.2) (.slice Aoz6 t119.length coz6)) (fun _ hk => hk.1.2) (.int .i64 t122)) (fun _ hk => hk.2) (.slice Aoz1 t104.length coz1)) (fun _ hk => hk.2) (.slice Aoz2 t107.length coz2)) (fun _ hk => hk.2) (.slice Aoz3 t110.length coz3)) (fun _ hk => hk.2) (.int .i64 a0_3)) (fun _ hk => hk.2) (.slice Aoz4 t113.length coz4)) (fun _ hk => hk.2) (.slice Aoz5 t116.length coz5)) (fun _ hk => hk.2) (.slice Aoz6 t119.length coz6)) (fun _ hk => hk.2) (.int .i64 t122)) (fun _ hk => ⟨hk.1.1.1.2, hk.1.1.2⟩), (rT (h := by exact Kd.R_mono (Kd.R_far (p := ⟨gbz2, 7, none⟩) (Kd.R_far (p := ⟨gbz2, 6, none⟩) (Kd.R_far (p := ⟨gbz2, 5, none⟩) (Kd.R_far (p := ⟨gbz2, 4, none⟩) (Kd.R_far (p := ⟨gbz2, 3, none⟩) (Kd.R_far (p := ⟨gbz2, 2, none⟩) (Kd.R_far (p := ⟨gbz2, 1, none⟩) (Kd.R_far (p := ⟨gbz2, 0, none⟩) (Kd.R_far (p := ⟨gbz3, 7, none⟩) (Kd.R_far (p := ⟨gbz3, 6, none⟩) (Kd.R_types (Kd.R_types HOz5.out BKz3.out (by decide)) BKz2.out (by decide)) (fun _ hk => hk.1.2) (.slice Aoz6 t119.length coz6)) (fun _ hk => hk.1.2) (.int .i64 t122)) (fun _ hk => hk.2) (.slice Aoz1 t104.length coz1)) (fun _ hk => hk.2) (.slice Aoz2 t107.length coz2)) (fun _ hk => hk.2) (.slice Aoz3 t110.length coz3)) (fun _ hk => hk.2) (.int .i64 a0_3)) (fun _ hk => hk.2) (.slice Aoz4 t113.length coz4)) (fun _ hk => hk.2) (.slice Aoz5 t116.length coz5)) (fun _ hk => hk.2) (.slice Aoz6 t119.length coz6)) (fun _ hk => hk.2) (.int .i64 t122)) (fun _ hk => hk.1.1.2))), (rT (h := by exact Kd.R_mono (Kd.R_far (p := ⟨gbz2, 7, none⟩) (Kd.R_far (p := ⟨gbz2, 6, none⟩) (Kd.R_far (p := ⟨gbz2, 5, none⟩) (Kd.R_far (p := ⟨gbz2, 4, none⟩) (Kd.R_far (p := ⟨gbz2, 3, none⟩) (Kd.R_far (p := ⟨gbz2, 2, none⟩) (Kd.R_far (p := ⟨gbz2, 1, none⟩) (Kd.R_far (p := ⟨gbz2, 0, none⟩) (Kd.R_far (p := ⟨gbz3, 7, none⟩) (Kd.R_far (p := ⟨gbz3, 6, none⟩) (Kd.R_types (Kd.R_types HOz6.out BKz3.out (by decide)) BKz2.out (by decide)) (fun _ hk => hk.1.2) (.slice Aoz6 t119.length coz6)) (fun _ hk => hk.1.2) (.int .i64 t122)) (fun _ hk => hk.2) (.slice Aoz1 t104.length coz1)) (fun _ hk => hk.2) (.slice Aoz2 t107.length coz2)) (fun _ hk => hk.2) (.slice Aoz3 t110.length coz3)) (fun _ hk => hk.2) (.int .i64 a0_3)) (fun _ hk => hk.2) (.slice Aoz4 t113.length coz4)) (fun _ hk => hk.2) (.slice Aoz5 t116.length coz5)) (fun _ hk => hk.2) (.slice Aoz6 t119.length coz6)) (fun _ hk => hk.2) (.int .i64 t122)) (fun _ hk => hk.1.1.2))), (hX HB.out)⟩
def impl_from.f (a0 : Int) (a1 : Int) (a2 : Int) : Option (Bool) := if a0 ≥ a1 then (some (decide (a0 ≤ a2))) else (some false)
set_option maxHeartbeats 8000000 in
set_option maxRecDepth 100000 in
theorem impl_from.calls (a0 : Int) (a1 : Int) (a2 : Int) (r : Bool) (w : World) (h : impl_from.f a0 a1 a2 = some r) :
    Calls Tryz.prog 102 #[.int .i64 a0, .int .i64 a1, .int .i64 a2] w fun e w' => e = .returned (.bool r) ∧ Drawn0 w w' := by
  have H := h
  unfold impl_from.f at H
  clear h
  go_enter Tryz.func102, Tryz.ntmps102
  by_cases c4 : a0 ≥ a1
  · rw [if_pos c4] at H
    have c4b0 := decide_eq_true c4
    clear c4
    obtain rfl := sI H
    go_wp2
    go_ret
    exact ⟨by first | rfl | (simp; done) | (simp [*]; done), dX⟩
  rw [if_neg c4] at H
  have c4b0 := decide_eq_false c4
  clear c4
  obtain rfl := sI H
  go_wp2
  go_ret
  exact ⟨by first | rfl | (simp; done) | (simp [*]; done), dX⟩
def impl_isPlace.f (a0 : Int) : Option (Bool) := (impl_from.f a0 0 19).bind fun t101 => (some t101)
set_option maxHeartbeats 8000000 in
set_option maxRecDepth 100000 in
theorem impl_isPlace.calls (a0 : Int) (r : Bool) (w : World) (h : impl_isPlace.f a0 = some r) :
    Calls Tryz.prog 182 #[.int .i64 a0] w fun e w' => e = .returned (.bool r) ∧ Drawn0 w w' := by
  have H := h
  unfold impl_isPlace.f at H
  clear h
  replace H := bE H; obtain ⟨t101, A2, H⟩ := H
  obtain rfl := sI H
  go_enter Tryz.func182, Tryz.ntmps182
  go_wp2_with (first | (refine goesM 102 4 Tryz.func102 #[.int .i64 a0, .int .i64 0, .int .i64 19] ?_; refine (impl_from.calls _ _ _ _ _ A2.out).mono ?_; rintro e w' ⟨rfl, ⟨nd, rfl⟩⟩; refine ⟨_, rfl, ?_⟩))
  go_ret
  exact ⟨by first | rfl | (simp; done) | (simp [*]; done), dX⟩
def impl_isWordNum.f (a0 : Int) : Option (Bool) := (impl_from.f a0 0 1000).bind fun t101 => (some t101)
set_option maxHeartbeats 8000000 in
set_option maxRecDepth 100000 in
theorem impl_isWordNum.calls (a0 : Int) (r : Bool) (w : World) (h : impl_isWordNum.f a0 = some r) :
    Calls Tryz.prog 183 #[.int .i64 a0] w fun e w' => e = .returned (.bool r) ∧ Drawn0 w w' := by
  have H := h
  unfold impl_isWordNum.f at H
  clear h
  replace H := bE H; obtain ⟨t101, A2, H⟩ := H
  obtain rfl := sI H
  go_enter Tryz.func183, Tryz.ntmps183
  go_wp2_with (first | (refine goesM 102 4 Tryz.func102 #[.int .i64 a0, .int .i64 0, .int .i64 1000] ?_; refine (impl_from.calls _ _ _ _ _ A2.out).mono ?_; rintro e w' ⟨rfl, ⟨nd, rfl⟩⟩; refine ⟨_, rfl, ?_⟩))
  go_ret
  exact ⟨by first | rfl | (simp; done) | (simp [*]; done), dX⟩
end Go.Proofs.YtmljebgideecjaaGreat.P2
