/- A part of the proof of the law FnExactJudgeTimes: texts of this seat, merged (words, printed functions of the program, plain lemmas). Conditions: none of its own. -/
import Derived.OpenShut
import Derived.DataElems
import Derived.DataReads
import Derived.Test.YtmljebgideecjaaGreatChecked
import Derived.Laws.CopyOwn
import Derived.Test.YtmljebgideecjaaGreatP2kFnExactJudgeTimes5
set_option linter.unusedSimpArgs false
set_option linter.unusedVariables false
namespace Go.Proofs.YtmljebgideecjaaGreat.P2
open Go.Proofs.YtmljebgideecjaaGreatZ Go.RowKit Go.Proofs.YtmljebgideecjaaGreatW.PrintWords Go.Proofs.YtmljebgideecjaaGreatW.PrintLast Go.Proofs.YtmljebgideecjaaGreatW.PrintMore
attribute [local go_sem] max2_int min2_int max_two min_two max_three min_three max_four min_four   -- for this text's walks alone
def laws_eqCall.f (k : Nat) (a0_0 : Int) (a0_1 : Int) (a0_2 : Int) (a0_3 : Int) (a0_4 : Int) (a0_5 : Int) (a0_6 : Int) (a0_7 : Int) (l0_8 : List Int) (a1_0 : Int) (a1_1 : Int) (a1_2 : Int) (a1_3 : Int) (a1_4 : Int) (a1_5 : Int) (a1_6 : Int) (a1_7 : Int) (l1_8 : List Int) : Option (Bool) := if a0_0 = a1_0 then ((laws_eqOp.f a0_1 a0_2 a0_3 a1_1 a1_2 a1_3).bind fun t103 => (if t103 = true then (if a0_4 = a1_4 then (if a0_5 = a1_5 then (if a0_6 = a1_6 then ((laws_eqRes.f k a0_7 l0_8 a1_7 l1_8).bind fun t104 => (if t104 = true then (some true) else (some false))) else (some false)) else (some false)) else (some false)) else (some false))) else (some false)
set_option maxHeartbeats 8000000 in
set_option maxRecDepth 100000 in
theorem laws_eqCall.calls (k : Nat) (a0_0 : Int) (a0_1 : Int) (a0_2 : Int) (a0_3 : Int) (a0_4 : Int) (a0_5 : Int) (a0_6 : Int) (a0_7 : Int) (A0_8 : Option Addr) (c0_8 : Nat) (l0_8 : List Int) (a1_0 : Int) (a1_1 : Int) (a1_2 : Int) (a1_3 : Int) (a1_4 : Int) (a1_5 : Int) (a1_6 : Int) (a1_7 : Int) (A1_8 : Option Addr) (c1_8 : Nat) (l1_8 : List Int) (r : Bool) (w : World) (hr0_8 : Kd.C (Kd.int .i64) w A0_8 l0_8.length l0_8) (hc0_8 : l0_8.length ≤ c0_8) (hr1_8 : Kd.C (Kd.int .i64) w A1_8 l1_8.length l1_8) (hc1_8 : l1_8.length ≤ c1_8) (h : laws_eqCall.f k a0_0 a0_1 a0_2 a0_3 a0_4 a0_5 a0_6 a0_7 l0_8 a1_0 a1_1 a1_2 a1_3 a1_4 a1_5 a1_6 a1_7 l1_8 = some r) :
    Calls Tryz.prog 112 #[.agg #[.int .i64 a0_0, .int .i64 a0_1, .int .i64 a0_2, .int .i64 a0_3, .int .i64 a0_4, .int .i64 a0_5, .int .i64 a0_6, .int .i64 a0_7, .slice A0_8 l0_8.length c0_8], .agg #[.int .i64 a1_0, .int .i64 a1_1, .int .i64 a1_2, .int .i64 a1_3, .int .i64 a1_4, .int .i64 a1_5, .int .i64 a1_6, .int .i64 a1_7, .slice A1_8 l1_8.length c1_8]] w fun e w' => e = .returned (.bool r) ∧ Below w.heap.size w w' := by
  have hu73 := Tryz.underlying73
  have hu69 := Tryz.underlying69
  have hu71 := Tryz.underlying71
  have HR0_8 := aM hr0_8
  have HC0_8 := aM hc0_8
  clear hr0_8 hc0_8
  have HR1_8 := aM hr1_8
  have HC1_8 := aM hc1_8
  clear hr1_8 hc1_8
  have HB := aM (Below.refl w.heap.size w)
  have H := h
  unfold laws_eqCall.f at H
  clear h
  go_enter Tryz.func112, Tryz.ntmps112
  go_wp2_with (first | (refine boxE 2 #[.int .i64 a0_0, .int .i64 a0_1, .int .i64 a0_2, .int .i64 a0_3, .int .i64 a0_4, .int .i64 a0_5, .int .i64 a0_6, .int .i64 a0_7, .slice A0_8 l0_8.length c0_8] 73 ?_; intro gbz1 hg wz1 hbox hb; have BKz1 := aM (hbox); have GWz1 := aG hg HB; have GEz1 := aG hg HB; replace HB := aS HB hb; clear hb hbox hg) | (refine boxE 3 #[.int .i64 a1_0, .int .i64 a1_1, .int .i64 a1_2, .int .i64 a1_3, .int .i64 a1_4, .int .i64 a1_5, .int .i64 a1_6, .int .i64 a1_7, .slice A1_8 l1_8.length c1_8] 73 ?_; intro gbz2 hg wz2 hbox hb; have BKz2 := aM (hbox); have GWz2 := aG hg HB; have GEz2 := aG hg HB; have NBz1 := aL hg BKz1; have NBz2 := aR hg BKz1; replace BKz1 := aB BKz1 hb; replace HB := aS HB hb; clear hb hbox hg; have hnbz1 := NBz1.out; have hncz1 := NBz2.out; obtain ⟨hczz1, hczz2, hczz3, hczz4, hczz5, hczz6, hczz7, hczz8, hczz9, hfzz1, hfzz2, hfzz3, hfzz4, hfzz5, hfzz6, hfzz7, hfzz8, hfzz9⟩ := cZ9 BKz1.out; obtain ⟨hczz10, hczz11, hczz12, hczz13, hczz14, hczz15, hczz16, hczz17, hczz18, hfzz10, hfzz11, hfzz12, hfzz13, hfzz14, hfzz15, hfzz16, hfzz17, hfzz18⟩ := cZ9 BKz2.out; refine Stop.out ?_))
  refine ⟨?_⟩
  by_cases c3 : a0_0 = a1_0
  case neg =>
    rw [if_neg c3] at H
    obtain ⟨c3b0, c3b1⟩ := eqF c3
    obtain rfl := sI H
    go_wp2
    go_ret
    exact ⟨rE, (hX HB.out)⟩
  rw [if_pos c3] at H
  obtain ⟨c3b0, c3b1⟩ := eqT c3
  clear c3
  replace H := bE H; obtain ⟨t103, A4, H⟩ := H
  by_cases c5 : t103 = true
  case neg =>
    replace c5 := Bool.eq_false_iff.mpr c5
    subst c5
    rw [if_neg nft] at H
    obtain rfl := sI H
    go_wp2_with (first | (refine goesM 128 14 Tryz.func128 #[.agg #[.int .i64 a0_1, .int .i64 a0_2, .int .i64 a0_3], .agg #[.int .i64 a1_1, .int .i64 a1_2, .int .i64 a1_3]] ?_; refine (laws_eqOp.calls _ _ _ _ _ _ _ _ A4.out).mono ?_; rintro e wz3 ⟨rfl, hb⟩; refine ⟨_, rfl, ?_⟩; replace BKz1 := aB BKz1 hb; replace BKz2 := aB BKz2 hb; replace HB := aS HB hb; clear hb))
    go_ret
    exact ⟨rE, (hX HB.out)⟩
  subst c5
  rw [if_pos rfl] at H
  go_wp2_with (first | (refine goesM 128 14 Tryz.func128 #[.agg #[.int .i64 a0_1, .int .i64 a0_2, .int .i64 a0_3], .agg #[.int .i64 a1_1, .int .i64 a1_2, .int .i64 a1_3]] ?_; refine (laws_eqOp.calls _ _ _ _ _ _ _ _ A4.out).mono ?_; rintro e wz3 ⟨rfl, hb⟩; refine ⟨_, rfl, ?_⟩; replace BKz1 := aB BKz1 hb; replace BKz2 := aB BKz2 hb; replace HB := aS HB hb; clear hb; obtain ⟨hczz19, hczz20, hczz21, hczz22, hczz23, hczz24, hczz25, hczz26, hczz27, hfzz19, hfzz20, hfzz21, hfzz22, hfzz23, hfzz24, hfzz25, hfzz26, hfzz27⟩ := cZ9 BKz1.out; obtain ⟨hczz28, hczz29, hczz30, hczz31, hczz32, hczz33, hczz34, hczz35, hczz36, hfzz28, hfzz29, hfzz30, hfzz31, hfzz32, hfzz33, hfzz34, hfzz35, hfzz36⟩ := cZ9 BKz2.out; refine Stop.out ?_))
  refine ⟨?_⟩
  by_cases c6 : a0_4 = a1_4
  case neg =>
    rw [if_neg c6] at H
    obtain ⟨c6b0, c6b1⟩ := eqF c6
    obtain rfl := sI H
    go_wp2
    go_ret
    exact ⟨rE, (hX HB.out)⟩
  rw [if_pos c6] at H
  obtain ⟨c6b0, c6b1⟩ := eqT c6
  clear c6
  by_cases c7 : a0_5 = a1_5
  case neg =>
    rw [if_neg c7] at H
    obtain ⟨c7b0, c7b1⟩ := eqF c7
    obtain rfl := sI H
    go_wp2
    go_ret
    exact ⟨rE, (hX HB.out)⟩
  rw [if_pos c7] at H
  obtain ⟨c7b0, c7b1⟩ := eqT c7
  clear c7
  by_cases c8 : a0_6 = a1_6
  case neg =>
    rw [if_neg c8] at H
    obtain ⟨c8b0, c8b1⟩ := eqF c8
    obtain rfl := sI H
    go_wp2
    go_ret
    exact ⟨rE, (hX HB.out)⟩
  rw [if_pos c8] at H
  obtain ⟨c8b0, c8b1⟩ := eqT c8
  clear c8
  replace H := bE H; obtain ⟨t104, A9, H⟩ := H
  by_cases c10 : t104 = true
  · subst c10
    rw [if_pos rfl] at H
    obtain rfl := sI H
    go_wp2_with (first | (refine goesM 190 35 Tryz.func190 #[.agg #[.int .i64 a0_7, .slice A0_8 l0_8.length c0_8], .agg #[.int .i64 a1_7, .slice A1_8 l1_8.length c1_8]] ?_; refine (laws_eqRes.calls _ _ _ _ _ _ _ _ _ _ _ (cC HR0_8.out HB.out) HC0_8.out (cC HR1_8.out HB.out) HC1_8.out A9.out).mono ?_; rintro e wz4 ⟨rfl, hb⟩; refine ⟨_, rfl, ?_⟩; replace BKz1 := aB BKz1 hb; replace BKz2 := aB BKz2 hb; replace HB := aS HB hb; clear hb))
    go_ret
    exact ⟨rE, (hX HB.out)⟩
  replace c10 := Bool.eq_false_iff.mpr c10
  subst c10
  rw [if_neg nft] at H
  obtain rfl := sI H
  go_wp2_with (first | (refine goesM 190 35 Tryz.func190 #[.agg #[.int .i64 a0_7, .slice A0_8 l0_8.length c0_8], .agg #[.int .i64 a1_7, .slice A1_8 l1_8.length c1_8]] ?_; refine (laws_eqRes.calls _ _ _ _ _ _ _ _ _ _ _ (cC HR0_8.out HB.out) HC0_8.out (cC HR1_8.out HB.out) HC1_8.out A9.out).mono ?_; rintro e wz4 ⟨rfl, hb⟩; refine ⟨_, rfl, ?_⟩; replace BKz1 := aB BKz1 hb; replace BKz2 := aB BKz2 hb; replace HB := aS HB hb; clear hb))
  go_ret
  exact ⟨rE, (hX HB.out)⟩
def laws_eqCallS.l0 : Nat → List (S73) → List (S73) → Int → Option (Bool)
  | 0, _, _, _ => none
  | k + 1, x0, x1, x5 => if x5 < (x0.length : Int) then (if 0 ≤ x5 then (if x5 < (x1.length : Int) then ((laws_eqCall.f k ((rd_T73 x0 x5).f0) ((rd_T73 x0 x5).f1.f0) ((rd_T73 x0 x5).f1.f1) ((rd_T73 x0 x5).f1.f2) ((rd_T73 x0 x5).f2) ((rd_T73 x0 x5).f3) ((rd_T73 x0 x5).f4) ((rd_T73 x0 x5).f5.f0) ((rd_T73 x0 x5).f5.f1) ((rd_T73 x1 x5).f0) ((rd_T73 x1 x5).f1.f0) ((rd_T73 x1 x5).f1.f1) ((rd_T73 x1 x5).f1.f2) ((rd_T73 x1 x5).f2) ((rd_T73 x1 x5).f3) ((rd_T73 x1 x5).f4) ((rd_T73 x1 x5).f5.f0) ((rd_T73 x1 x5).f5.f1)).bind fun t103 => (if t103 = true then (laws_eqCallS.l0 k x0 x1 (wrap64 (x5 + 1))) else (some false))) else (none)) else (none)) else (some true)
def laws_eqCallS.f (k : Nat) (l0 : List (S73)) (l1 : List (S73)) : Option (Bool) := if (l0.length : Int) = (l1.length : Int) then (laws_eqCallS.l0 k l0 l1 0) else (some false)
def laws_eqCallS.T6 : Bool × List (List Nat × List Nat) := (true, [([], []), ([], []), ([0, 1], [0, 1]), ([2], [2]), ([], []), ([], []), ([4, 5], [4, 5]), ([6], [6]), ([3, 7], [3, 7]), ([8], [8])])
def laws_eqCallS.B6 : List Nat := [0, 0, 3, 7, 0, 0, 48, 112, 255, 511]
theorem laws_eqCallS.tab6 : rtab .any (opsOf Tryz.f52 6) = laws_eqCallS.T6 := by kernel_rfl
theorem laws_eqCallS.bits6 : waitsOk laws_eqCallS.T6.2 laws_eqCallS.B6 = true := by kernel_rfl
set_option maxHeartbeats 8000000 in
set_option maxRecDepth 100000 in
theorem laws_eqCallS.calls (k : Nat) (A0 : Option Addr) (c0 : Nat) (l0 : List (S73)) (A1 : Option Addr) (c1 : Nat) (l1 : List (S73)) (r : Bool) (w : World) (hr0 : Kd.C k73 w A0 l0.length l0) (hc0 : l0.length ≤ c0) (hr1 : Kd.C k73 w A1 l1.length l1) (hc1 : l1.length ≤ c1) (h : laws_eqCallS.f k l0 l1 = some r) :
    Calls Tryz.prog 52 #[.slice A0 l0.length c0, .slice A1 l1.length c1] w fun e w' => e = .returned (.bool r) ∧ Below w.heap.size w w' := by
  have hu73 := Tryz.underlying73
  have HR0 := aM hr0
  have HC0 := aM hc0
  clear hr0 hc0
  have HR1 := aM hr1
  have HC1 := aM hc1
  clear hr1 hc1
  have HB := aM (Below.refl w.heap.size w)
  have H := h
  unfold laws_eqCallS.f at H
  clear h
  go_enter Tryz.func52, Tryz.ntmps52
  by_cases c3 : (l0.length : Int) = (l1.length : Int)
  case neg =>
    rw [if_neg c3] at H
    obtain ⟨c3b0, c3b1⟩ := eqF c3
    have c3b2 : (l0.length == l1.length) = false := by first | simpa using c3 | (simp at c3 ⊢; omega)
    obtain rfl := sI H
    go_wp2
    go_ret
    exact ⟨rE, (hX HB.out)⟩
  rw [if_pos c3] at H
  obtain ⟨c3b0, c3b1⟩ := eqT c3
  have c3b2 : (l0.length == l1.length) = true := by first | simpa using c3 | (simp at c3 ⊢; omega)
  clear c3
  have H' := aM H
  clear H
  go_wp2
  go_loopg [5] k (fun kq v5 w' => ∃ (x5_1 : Int), v5 = .int .i64 x5_1 ∧ Aside0 (laws_eqCallS.l0 kq l0 l1 x5_1 = some r) ∧ Aside0 (kq ≤ k) ∧ Aside0 (Below w.heap.size w w'))
  case atStart => exact ⟨(0), rS, H', ⟨Nat.le_refl _⟩, ⟨(hX HB.out)⟩⟩
  case round =>
    clear H'
    try clear p2
    try clear c3
    try clear c3b0
    try clear c3b1
    try clear c3b2
    obtain ⟨x5_1, rfl, HA, HKy1, HB⟩ := hrel
    cases gk with
    | zero => exact absurd HA.out (by simp [laws_eqCallS.l0])
    | succ k1 =>
      have H := HA.out
      clear HA
      simp only [laws_eqCallS.l0] at H
      by_cases c4 : x5_1 < (l0.length : Int)
      case neg =>
        rw [if_neg c4] at H
        have c4b0 := decide_eq_false c4
        clear c4
        obtain rfl := sI H
        go_wp2
        go_ret
        exact ⟨rE, (hX HB.out)⟩
      rw [if_pos c4] at H
      have c4b0 := decide_eq_true c4
      clear c4
      replace H := ifP H; obtain ⟨c5, H⟩ := H
      have c5b0 := decide_eq_true c5
      clear c5
      replace H := ifP H; obtain ⟨c6, H⟩ := H
      have c6b0 := decide_eq_true c6
      clear c6
      replace H := bE H; obtain ⟨t103, A7, H⟩ := H
      try go_wp2
      replace HB := aM (below_drew1 HB.out)
      have px1 : 0 ≤ (x5_1 : Int) := odA
      have qx1 : x5_1 < (l0.length : Int) := odA
      obtain ⟨adx1, Ax1, cx1, ex1, hxx1, hxx2, hxx3, hxx4, hxx5, hxx6, hxx7, hxx8, hxx9, hlx1, hix1⟩ := at_T73 HR0.out x5_1 px1 qx1
      have hwx1 := hxx9
      have hwx2 := hxx8
      have hwx3 := hxx7
      have hwx4 := hxx6
      have hwx5 := hxx5
      have hwx6 := hxx4
      have hwx7 := hxx3
      have hwx8 := hxx2
      have hwx9 := hxx1
      cases ex1
      replace hxx1 := bc HB.out hxx1
      replace hxx2 := bc HB.out hxx2
      replace hxx3 := bc HB.out hxx3
      replace hxx4 := bc HB.out hxx4
      replace hxx5 := bc HB.out hxx5
      replace hxx6 := bc HB.out hxx6
      replace hxx7 := bc HB.out hxx7
      replace hxx8 := bc HB.out hxx8
      replace hxx9 := bc HB.out hxx9
      have HRx1 := aM hix1
      have HCx1 := aM hlx1
      clear hix1 hlx1
      replace px1 := eq_true px1
      replace qx1 := eq_true qx1
      have px2 : 0 ≤ (x5_1 : Int) := odA
      have qx2 : x5_1 < (l1.length : Int) := odA
      obtain ⟨adx2, Ax2, cx2, ex2, hxx10, hxx11, hxx12, hxx13, hxx14, hxx15, hxx16, hxx17, hxx18, hlx2, hix2⟩ := at_T73 HR1.out x5_1 px2 qx2
      have hwx10 := hxx18
      have hwx11 := hxx17
      have hwx12 := hxx16
      have hwx13 := hxx15
      have hwx14 := hxx14
      have hwx15 := hxx13
      have hwx16 := hxx12
      have hwx17 := hxx11
      have hwx18 := hxx10
      cases ex2
      replace hxx10 := bc HB.out hxx10
      replace hxx11 := bc HB.out hxx11
      replace hxx12 := bc HB.out hxx12
      replace hxx13 := bc HB.out hxx13
      replace hxx14 := bc HB.out hxx14
      replace hxx15 := bc HB.out hxx15
      replace hxx16 := bc HB.out hxx16
      replace hxx17 := bc HB.out hxx17
      replace hxx18 := bc HB.out hxx18
      have HRx2 := aM hix2
      have HCx2 := aM hlx2
      clear hix2 hlx2
      replace px2 := eq_true px2
      replace qx2 := eq_true qx2
      refine start_ (n := 10) (S := fun w' => w'.cell? (adx1.add ((x5_1).toNat * 9)) = some (.int .i64 ((rd_T73 l0 x5_1).f0)) ∧ w'.cell? ⟨(adx1.add ((x5_1).toNat * 9)).block, (adx1.add ((x5_1).toNat * 9)).off + 1, none⟩ = some (.int .i64 ((rd_T73 l0 x5_1).f1.f0)) ∧ w'.cell? ⟨(adx1.add ((x5_1).toNat * 9)).block, (adx1.add ((x5_1).toNat * 9)).off + 2, none⟩ = some (.int .i64 ((rd_T73 l0 x5_1).f1.f1)) ∧ w'.cell? ⟨(adx1.add ((x5_1).toNat * 9)).block, (adx1.add ((x5_1).toNat * 9)).off + 3, none⟩ = some (.int .i64 ((rd_T73 l0 x5_1).f1.f2)) ∧ w'.cell? ⟨(adx1.add ((x5_1).toNat * 9)).block, (adx1.add ((x5_1).toNat * 9)).off + 4, none⟩ = some (.int .i64 ((rd_T73 l0 x5_1).f2)) ∧ w'.cell? ⟨(adx1.add ((x5_1).toNat * 9)).block, (adx1.add ((x5_1).toNat * 9)).off + 5, none⟩ = some (.int .i64 ((rd_T73 l0 x5_1).f3)) ∧ w'.cell? ⟨(adx1.add ((x5_1).toNat * 9)).block, (adx1.add ((x5_1).toNat * 9)).off + 6, none⟩ = some (.int .i64 ((rd_T73 l0 x5_1).f4)) ∧ w'.cell? ⟨(adx1.add ((x5_1).toNat * 9)).block, (adx1.add ((x5_1).toNat * 9)).off + 7, none⟩ = some (.int .i64 ((rd_T73 l0 x5_1).f5.f0)) ∧ w'.cell? ⟨(adx1.add ((x5_1).toNat * 9)).block, (adx1.add ((x5_1).toNat * 9)).off + 8, none⟩ = some (.slice Ax1 ((rd_T73 l0 x5_1).f5.f1).length cx1) ∧ w'.cell? (adx2.add ((x5_1).toNat * 9)) = some (.int .i64 ((rd_T73 l1 x5_1).f0)) ∧ w'.cell? ⟨(adx2.add ((x5_1).toNat * 9)).block, (adx2.add ((x5_1).toNat * 9)).off + 1, none⟩ = some (.int .i64 ((rd_T73 l1 x5_1).f1.f0)) ∧ w'.cell? ⟨(adx2.add ((x5_1).toNat * 9)).block, (adx2.add ((x5_1).toNat * 9)).off + 2, none⟩ = some (.int .i64 ((rd_T73 l1 x5_1).f1.f1)) ∧ w'.cell? ⟨(adx2.add ((x5_1).toNat * 9)).block, (adx2.add ((x5_1).toNat * 9)).off + 3, none⟩ = some (.int .i64 ((rd_T73 l1 x5_1).f1.f2)) ∧ w'.cell? ⟨(adx2.add ((x5_1).toNat * 9)).block, (adx2.add ((x5_1).toNat * 9)).off + 4, none⟩ = some (.int .i64 ((rd_T73 l1 x5_1).f2)) ∧ w'.cell? ⟨(adx2.add ((x5_1).toNat * 9)).block, (adx2.add ((x5_1).toNat * 9)).off + 5, none⟩ = some (.int .i64 ((rd_T73 l1 x5_1).f3)) ∧ w'.cell? ⟨(adx2.add ((x5_1).toNat * 9)).block, (adx2.add ((x5_1).toNat * 9)).off + 6, none⟩ = some (.int .i64 ((rd_T73 l1 x5_1).f4)) ∧ w'.cell? ⟨(adx2.add ((x5_1).toNat * 9)).block, (adx2.add ((x5_1).toNat * 9)).off + 7, none⟩ = some (.int .i64 ((rd_T73 l1 x5_1).f5.f0)) ∧ w'.cell? ⟨(adx2.add ((x5_1).toNat * 9)).block, (adx2.add ((x5_1).toNat * 9)).off + 8, none⟩ = some (.slice Ax2 ((rd_T73 l1 x5_1).f5.f1).length cx2)) (ds := []) (bm 10 0) (by kernel_rfl) rfl (by kernel_rfl) ⟨(bc HB.out hwx9 :), (bc HB.out hwx8 :), (bc HB.out hwx7 :), (bc HB.out hwx6 :), (bc HB.out hwx5 :), (bc HB.out hwx4 :), (bc HB.out hwx3 :), (bc HB.out hwx2 :), (bc HB.out hwx1 :), (bc HB.out hwx18 :), (bc HB.out hwx17 :), (bc HB.out hwx16 :), (bc HB.out hwx15 :), (bc HB.out hwx14 :), (bc HB.out hwx13 :), (bc HB.out hwx12 :), (bc HB.out hwx11 :), (bc HB.out hwx10 :)⟩ (fun hHeld => ?_); refine with_tabW laws_eqCallS.tab6 laws_eqCallS.bits6 (fun HT_ HW_ => ?_)
      generalize wr.drew = wx1 at HB HRx1 HRx2 hxx1 hxx2 hxx3 hxx4 hxx5 hxx6 hxx7 hxx8 hxx9 hxx10 hxx11 hxx12 hxx13 hxx14 hxx15 hxx16 hxx17 hxx18 hHeld ⊢
      refine pZ 0 17 (bm 10 1) HT_.out ?_
      refine pZ 1 18 (bm 10 3) HT_.out ?_
      refine pZ 2 19 (bm 10 7) HT_.out ?_
      refine pZ 4 21 (bm 10 23) HT_.out ?_
      refine pZ 5 22 (bm 10 55) HT_.out ?_
      refine pZ 6 23 (bm 10 119) HT_.out ?_
      refine tZ 3 20 (bm 10 127) HT_.out HW_.out hHeld ?_
      refine tZ 7 24 (bm 10 255) HT_.out HW_.out hHeld ?_
      by_cases c8 : t103 = true
      case neg =>
        replace c8 := Bool.eq_false_iff.mpr c8
        subst c8
        rw [if_neg nft] at H
        obtain rfl := sI H
        refine oZ 8 (some 25) (bm 10 511) HT_.out (fun K hK => ?_)
        refine goesN Tryz.func112 #[.agg #[.int .i64 ((rd_T73 l0 x5_1).f0), .int .i64 ((rd_T73 l0 x5_1).f1.f0), .int .i64 ((rd_T73 l0 x5_1).f1.f1), .int .i64 ((rd_T73 l0 x5_1).f1.f2), .int .i64 ((rd_T73 l0 x5_1).f2), .int .i64 ((rd_T73 l0 x5_1).f3), .int .i64 ((rd_T73 l0 x5_1).f4), .int .i64 ((rd_T73 l0 x5_1).f5.f0), .slice Ax1 ((rd_T73 l0 x5_1).f5.f1).length cx1], .agg #[.int .i64 ((rd_T73 l1 x5_1).f0), .int .i64 ((rd_T73 l1 x5_1).f1.f0), .int .i64 ((rd_T73 l1 x5_1).f1.f1), .int .i64 ((rd_T73 l1 x5_1).f1.f2), .int .i64 ((rd_T73 l1 x5_1).f2), .int .i64 ((rd_T73 l1 x5_1).f3), .int .i64 ((rd_T73 l1 x5_1).f4), .int .i64 ((rd_T73 l1 x5_1).f5.f0), .slice Ax2 ((rd_T73 l1 x5_1).f5.f1).length cx2]] ?_
        with_reducible refine (laws_eqCall.calls k1 ((rd_T73 l0 x5_1).f0) ((rd_T73 l0 x5_1).f1.f0) ((rd_T73 l0 x5_1).f1.f1) ((rd_T73 l0 x5_1).f1.f2) ((rd_T73 l0 x5_1).f2) ((rd_T73 l0 x5_1).f3) ((rd_T73 l0 x5_1).f4) ((rd_T73 l0 x5_1).f5.f0) _ _ ((rd_T73 l0 x5_1).f5.f1) ((rd_T73 l1 x5_1).f0) ((rd_T73 l1 x5_1).f1.f0) ((rd_T73 l1 x5_1).f1.f1) ((rd_T73 l1 x5_1).f1.f2) ((rd_T73 l1 x5_1).f2) ((rd_T73 l1 x5_1).f3) ((rd_T73 l1 x5_1).f4) ((rd_T73 l1 x5_1).f5.f0) _ _ ((rd_T73 l1 x5_1).f5.f1) false _ ?side1 ?side2 ?side3 ?side4 A7.out).mono ?_
        (case side1 => repeat (first | exact (Kd.C_below HRx1.out HB.out) | (with_reducible refine Kd.C_alloc ?_ _) | (with_reducible refine Kd.C_drewN ?_ _) | (with_reducible refine Kd.C_drew ?_)))
        (case side2 => exact HCx1.out)
        (case side3 => repeat (first | exact (Kd.C_below HRx2.out HB.out) | (with_reducible refine Kd.C_alloc ?_ _) | (with_reducible refine Kd.C_drewN ?_ _) | (with_reducible refine Kd.C_drew ?_)))
        (case side4 => exact HCx2.out)
        rintro e wx2 ⟨rfl, hb⟩
        refine ⟨_, rfl, ?_⟩
        replace HB := aS HB hb
        (try clear hb)
        (try clear hb2)
        (try clear hk)
        (try clear hi)
        refine hK.out _ _ ⟨(bc HB.out hwx9 :), (bc HB.out hwx8 :), (bc HB.out hwx7 :), (bc HB.out hwx6 :), (bc HB.out hwx5 :), (bc HB.out hwx4 :), (bc HB.out hwx3 :), (bc HB.out hwx2 :), (bc HB.out hwx1 :), (bc HB.out hwx18 :), (bc HB.out hwx17 :), (bc HB.out hwx16 :), (bc HB.out hwx15 :), (bc HB.out hwx14 :), (bc HB.out hwx13 :), (bc HB.out hwx12 :), (bc HB.out hwx11 :), (bc HB.out hwx10 :)⟩ (fun hHeld => ?_)
        clear hK K
        refine nZ 25 ?_
        refine pZ 9 26 (bm 10 1023) HT_.out ?_
        refine done_ (done_of HT_.out (by kernel_rfl)) ?_
        try go_wp2
        go_ret
        exact ⟨rE, (hX HB.out)⟩
      subst c8
      rw [if_pos rfl] at H
      have H' := aM H
      clear H
      refine oZ 8 (some 25) (bm 10 511) HT_.out (fun K hK => ?_)
      refine goesN Tryz.func112 #[.agg #[.int .i64 ((rd_T73 l0 x5_1).f0), .int .i64 ((rd_T73 l0 x5_1).f1.f0), .int .i64 ((rd_T73 l0 x5_1).f1.f1), .int .i64 ((rd_T73 l0 x5_1).f1.f2), .int .i64 ((rd_T73 l0 x5_1).f2), .int .i64 ((rd_T73 l0 x5_1).f3), .int .i64 ((rd_T73 l0 x5_1).f4), .int .i64 ((rd_T73 l0 x5_1).f5.f0), .slice Ax1 ((rd_T73 l0 x5_1).f5.f1).length cx1], .agg #[.int .i64 ((rd_T73 l1 x5_1).f0), .int .i64 ((rd_T73 l1 x5_1).f1.f0), .int .i64 ((rd_T73 l1 x5_1).f1.f1), .int .i64 ((rd_T73 l1 x5_1).f1.f2), .int .i64 ((rd_T73 l1 x5_1).f2), .int .i64 ((rd_T73 l1 x5_1).f3), .int .i64 ((rd_T73 l1 x5_1).f4), .int .i64 ((rd_T73 l1 x5_1).f5.f0), .slice Ax2 ((rd_T73 l1 x5_1).f5.f1).length cx2]] ?_
      with_reducible refine (laws_eqCall.calls k1 ((rd_T73 l0 x5_1).f0) ((rd_T73 l0 x5_1).f1.f0) ((rd_T73 l0 x5_1).f1.f1) ((rd_T73 l0 x5_1).f1.f2) ((rd_T73 l0 x5_1).f2) ((rd_T73 l0 x5_1).f3) ((rd_T73 l0 x5_1).f4) ((rd_T73 l0 x5_1).f5.f0) _ _ ((rd_T73 l0 x5_1).f5.f1) ((rd_T73 l1 x5_1).f0) ((rd_T73 l1 x5_1).f1.f0) ((rd_T73 l1 x5_1).f1.f1) ((rd_T73 l1 x5_1).f1.f2) ((rd_T73 l1 x5_1).f2) ((rd_T73 l1 x5_1).f3) ((rd_T73 l1 x5_1).f4) ((rd_T73 l1 x5_1).f5.f0) _ _ ((rd_T73 l1 x5_1).f5.f1) true _ ?side1 ?side2 ?side3 ?side4 A7.out).mono ?_
      (case side1 => repeat (first | exact (Kd.C_below HRx1.out HB.out) | (with_reducible refine Kd.C_alloc ?_ _) | (with_reducible refine Kd.C_drewN ?_ _) | (with_reducible refine Kd.C_drew ?_)))
      (case side2 => exact HCx1.out)
      (case side3 => repeat (first | exact (Kd.C_below HRx2.out HB.out) | (with_reducible refine Kd.C_alloc ?_ _) | (with_reducible refine Kd.C_drewN ?_ _) | (with_reducible refine Kd.C_drew ?_)))
      (case side4 => exact HCx2.out)
      rintro e wx2 ⟨rfl, hb⟩
      refine ⟨_, rfl, ?_⟩
      replace HB := aS HB hb
      (try clear hb)
      (try clear hb2)
      (try clear hk)
      (try clear hi)
      refine hK.out _ _ ⟨(bc HB.out hwx9 :), (bc HB.out hwx8 :), (bc HB.out hwx7 :), (bc HB.out hwx6 :), (bc HB.out hwx5 :), (bc HB.out hwx4 :), (bc HB.out hwx3 :), (bc HB.out hwx2 :), (bc HB.out hwx1 :), (bc HB.out hwx18 :), (bc HB.out hwx17 :), (bc HB.out hwx16 :), (bc HB.out hwx15 :), (bc HB.out hwx14 :), (bc HB.out hwx13 :), (bc HB.out hwx12 :), (bc HB.out hwx11 :), (bc HB.out hwx10 :)⟩ (fun hHeld => ?_)
      clear hK K
      refine nZ 25 ?_
      refine pZ 9 26 (bm 10 1023) HT_.out ?_
      refine done_ (done_of HT_.out (by kernel_rfl)) ?_
      try go_wp2
      go_roundg k1
      case measure => have := HKy1.out; omega
      case rel => exact ⟨(wrap64 (x5_1 + 1)), rS, H', ⟨by have := HKy1.out; omega⟩, ⟨(hX HB.out)⟩⟩
def laws_eqMachine.f (k : Nat) (l0_0 : List (S140)) (l0_1 : List (S162)) (l0_2 : List (S97)) (a0_3 : Int) (l0_4 : List (S73)) (l0_5 : List Int) (l0_6 : List Int) (a0_7 : Int) (l1_0 : List (S140)) (l1_1 : List (S162)) (l1_2 : List (S97)) (a1_3 : Int) (l1_4 : List (S73)) (l1_5 : List Int) (l1_6 : List Int) (a1_7 : Int) : Option (Bool) := (laws_eqMem.f k l0_0 l0_1 l1_0 l1_1).bind fun t103 => (if t103 = true then ((laws_eqThreadS.f k l0_2 l1_2).bind fun t104 => (if t104 = true then (if a0_3 = a1_3 then ((laws_eqCallS.f k l0_4 l1_4).bind fun t105 => (if t105 = true then ((laws_eqIntS.f k l0_5 l1_5).bind fun t106 => (if t106 = true then ((laws_eqRows.f k l0_6 a0_7 l1_6 a1_7).bind fun t107 => (if t107 = true then (some true) else (some false))) else (some false))) else (some false))) else (some false)) else (some false))) else (some false))
set_option maxHeartbeats 8000000 in
set_option maxRecDepth 100000 in
theorem laws_eqMachine.calls (k : Nat) (A0_0 : Option Addr) (c0_0 : Nat) (l0_0 : List (S140)) (A0_1 : Option Addr) (c0_1 : Nat) (l0_1 : List (S162)) (A0_2 : Option Addr) (c0_2 : Nat) (l0_2 : List (S97)) (a0_3 : Int) (A0_4 : Option Addr) (c0_4 : Nat) (l0_4 : List (S73)) (A0_5 : Option Addr) (c0_5 : Nat) (l0_5 : List Int) (A0_6 : Option Addr) (c0_6 : Nat) (l0_6 : List Int) (a0_7 : Int) (A1_0 : Option Addr) (c1_0 : Nat) (l1_0 : List (S140)) (A1_1 : Option Addr) (c1_1 : Nat) (l1_1 : List (S162)) (A1_2 : Option Addr) (c1_2 : Nat) (l1_2 : List (S97)) (a1_3 : Int) (A1_4 : Option Addr) (c1_4 : Nat) (l1_4 : List (S73)) (A1_5 : Option Addr) (c1_5 : Nat) (l1_5 : List Int) (A1_6 : Option Addr) (c1_6 : Nat) (l1_6 : List Int) (a1_7 : Int) (r : Bool) (w : World) (hr0_0 : Kd.C k140 w A0_0 l0_0.length l0_0) (hc0_0 : l0_0.length ≤ c0_0) (hr0_1 : Kd.C k162 w A0_1 l0_1.length l0_1) (hc0_1 : l0_1.length ≤ c0_1) (hr0_2 : Kd.C k97 w A0_2 l0_2.length l0_2) (hc0_2 : l0_2.length ≤ c0_2) (hr0_4 : Kd.C k73 w A0_4 l0_4.length l0_4) (hc0_4 : l0_4.length ≤ c0_4) (hr0_5 : Kd.C (Kd.int .i64) w A0_5 l0_5.length l0_5) (hc0_5 : l0_5.length ≤ c0_5) (hr0_6 : Kd.C (Kd.int .i64) w A0_6 l0_6.length l0_6) (hc0_6 : l0_6.length ≤ c0_6) (hr1_0 : Kd.C k140 w A1_0 l1_0.length l1_0) (hc1_0 : l1_0.length ≤ c1_0) (hr1_1 : Kd.C k162 w A1_1 l1_1.length l1_1) (hc1_1 : l1_1.length ≤ c1_1) (hr1_2 : Kd.C k97 w A1_2 l1_2.length l1_2) (hc1_2 : l1_2.length ≤ c1_2) (hr1_4 : Kd.C k73 w A1_4 l1_4.length l1_4) (hc1_4 : l1_4.length ≤ c1_4) (hr1_5 : Kd.C (Kd.int .i64) w A1_5 l1_5.length l1_5) (hc1_5 : l1_5.length ≤ c1_5) (hr1_6 : Kd.C (Kd.int .i64) w A1_6 l1_6.length l1_6) (hc1_6 : l1_6.length ≤ c1_6) (h : laws_eqMachine.f k l0_0 l0_1 l0_2 a0_3 l0_4 l0_5 l0_6 a0_7 l1_0 l1_1 l1_2 a1_3 l1_4 l1_5 l1_6 a1_7 = some r) :
    Calls Tryz.prog 14 #[.agg #[.slice A0_0 l0_0.length c0_0, .slice A0_1 l0_1.length c0_1, .slice A0_2 l0_2.length c0_2, .int .i64 a0_3, .slice A0_4 l0_4.length c0_4, .slice A0_5 l0_5.length c0_5, .slice A0_6 l0_6.length c0_6, .int .i64 a0_7], .agg #[.slice A1_0 l1_0.length c1_0, .slice A1_1 l1_1.length c1_1, .slice A1_2 l1_2.length c1_2, .int .i64 a1_3, .slice A1_4 l1_4.length c1_4, .slice A1_5 l1_5.length c1_5, .slice A1_6 l1_6.length c1_6, .int .i64 a1_7]] w fun e w' => e = .returned (.bool r) ∧ Below w.heap.size w w' := by
  have hu43 := Tryz.underlying43
  have hu38 := Tryz.underlying38
  have hu41 := Tryz.underlying41
  have HR0_0 := aM hr0_0
  have HC0_0 := aM hc0_0
  clear hr0_0 hc0_0
  have HR0_1 := aM hr0_1
  have HC0_1 := aM hc0_1
  clear hr0_1 hc0_1
  have HR0_2 := aM hr0_2
  have HC0_2 := aM hc0_2
  clear hr0_2 hc0_2
  have HR0_4 := aM hr0_4
  have HC0_4 := aM hc0_4
  clear hr0_4 hc0_4
  have HR0_5 := aM hr0_5
  have HC0_5 := aM hc0_5
  clear hr0_5 hc0_5
  have HR0_6 := aM hr0_6
  have HC0_6 := aM hc0_6
  clear hr0_6 hc0_6
  have HR1_0 := aM hr1_0
  have HC1_0 := aM hc1_0
  clear hr1_0 hc1_0
  have HR1_1 := aM hr1_1
  have HC1_1 := aM hc1_1
  clear hr1_1 hc1_1
  have HR1_2 := aM hr1_2
  have HC1_2 := aM hc1_2
  clear hr1_2 hc1_2
  have HR1_4 := aM hr1_4
  have HC1_4 := aM hc1_4
  clear hr1_4 hc1_4
  have HR1_5 := aM hr1_5
  have HC1_5 := aM hc1_5
  clear hr1_5 hc1_5
  have HR1_6 := aM hr1_6
  have HC1_6 := aM hc1_6
  clear hr1_6 hc1_6
  have HB := aM (Below.refl w.heap.size w)
  have H := h
  unfold laws_eqMachine.f at H
  clear h
  replace H := bE H; obtain ⟨t103, A3, H⟩ := H
  go_enter Tryz.func14, Tryz.ntmps14
  go_wp2_with (first | (refine boxE 2 #[.slice A0_0 l0_0.length c0_0, .slice A0_1 l0_1.length c0_1, .slice A0_2 l0_2.length c0_2, .int .i64 a0_3, .slice A0_4 l0_4.length c0_4, .slice A0_5 l0_5.length c0_5, .slice A0_6 l0_6.length c0_6, .int .i64 a0_7] 43 ?_; intro gbz1 hg wz1 hbox hb; have BKz1 := aM (hbox); have GWz1 := aG hg HB; have GEz1 := aG hg HB; replace HB := aS HB hb; clear hb hbox hg) | (refine boxE 3 #[.slice A1_0 l1_0.length c1_0, .slice A1_1 l1_1.length c1_1, .slice A1_2 l1_2.length c1_2, .int .i64 a1_3, .slice A1_4 l1_4.length c1_4, .slice A1_5 l1_5.length c1_5, .slice A1_6 l1_6.length c1_6, .int .i64 a1_7] 43 ?_; intro gbz2 hg wz2 hbox hb; have BKz2 := aM (hbox); have GWz2 := aG hg HB; have GEz2 := aG hg HB; have NBz1 := aL hg BKz1; have NBz2 := aR hg BKz1; replace BKz1 := aB BKz1 hb; replace HB := aS HB hb; clear hb hbox hg; have hnbz1 := NBz1.out; have hncz1 := NBz2.out; obtain ⟨hczz1, hczz2, hczz3, hczz4, hczz5, hczz6, hczz7, hczz8, hfzz1, hfzz2, hfzz3, hfzz4, hfzz5, hfzz6, hfzz7, hfzz8⟩ := cZ8 BKz1.out; obtain ⟨hczz9, hczz10, hczz11, hczz12, hczz13, hczz14, hczz15, hczz16, hfzz9, hfzz10, hfzz11, hfzz12, hfzz13, hfzz14, hfzz15, hfzz16⟩ := cZ8 BKz2.out; refine Stop.out ?_))
  refine ⟨?_⟩
  by_cases c4 : t103 = true
  case neg =>
    replace c4 := Bool.eq_false_iff.mpr c4
    subst c4
    rw [if_neg nft] at H
    obtain rfl := sI H
    go_wp2_with (first | (refine goesM 50 9 Tryz.func50 #[.agg #[.slice A0_0 l0_0.length c0_0, .slice A0_1 l0_1.length c0_1], .agg #[.slice A1_0 l1_0.length c1_0, .slice A1_1 l1_1.length c1_1]] ?_; refine (laws_eqMem.calls _ _ _ _ _ _ _ _ _ _ _ _ _ _ _ (cC HR0_0.out HB.out) HC0_0.out (cC HR0_1.out HB.out) HC0_1.out (cC HR1_0.out HB.out) HC1_0.out (cC HR1_1.out HB.out) HC1_1.out A3.out).mono ?_; rintro e wz3 ⟨rfl, hb⟩; refine ⟨_, rfl, ?_⟩; replace BKz1 := aB BKz1 hb; replace BKz2 := aB BKz2 hb; replace HB := aS HB hb; clear hb))
    go_ret
    exact ⟨rE, (hX HB.out)⟩
  subst c4
  rw [if_pos rfl] at H
  replace H := bE H; obtain ⟨t104, A5, H⟩ := H
  go_wp2_with (first | (refine goesM 50 9 Tryz.func50 #[.agg #[.slice A0_0 l0_0.length c0_0, .slice A0_1 l0_1.length c0_1], .agg #[.slice A1_0 l1_0.length c1_0, .slice A1_1 l1_1.length c1_1]] ?_; refine (laws_eqMem.calls _ _ _ _ _ _ _ _ _ _ _ _ _ _ _ (cC HR0_0.out HB.out) HC0_0.out (cC HR0_1.out HB.out) HC0_1.out (cC HR1_0.out HB.out) HC1_0.out (cC HR1_1.out HB.out) HC1_1.out A3.out).mono ?_; rintro e wz3 ⟨rfl, hb⟩; refine ⟨_, rfl, ?_⟩; replace BKz1 := aB BKz1 hb; replace BKz2 := aB BKz2 hb; replace HB := aS HB hb; clear hb; obtain ⟨hczz17, hczz18, hczz19, hczz20, hczz21, hczz22, hczz23, hczz24, hfzz17, hfzz18, hfzz19, hfzz20, hfzz21, hfzz22, hfzz23, hfzz24⟩ := cZ8 BKz1.out; obtain ⟨hczz25, hczz26, hczz27, hczz28, hczz29, hczz30, hczz31, hczz32, hfzz25, hfzz26, hfzz27, hfzz28, hfzz29, hfzz30, hfzz31, hfzz32⟩ := cZ8 BKz2.out; refine Stop.out ?_))
  refine ⟨?_⟩
  by_cases c6 : t104 = true
  case neg =>
    replace c6 := Bool.eq_false_iff.mpr c6
    subst c6
    rw [if_neg nft] at H
    obtain rfl := sI H
    go_wp2_with (first | (refine goesM 51 15 Tryz.func51 #[.slice A0_2 l0_2.length c0_2, .slice A1_2 l1_2.length c1_2] ?_; refine (laws_eqThreadS.calls _ _ _ _ _ _ _ _ _ (cC HR0_2.out HB.out) HC0_2.out (cC HR1_2.out HB.out) HC1_2.out A5.out).mono ?_; rintro e wz4 ⟨rfl, hb⟩; refine ⟨_, rfl, ?_⟩; replace BKz1 := aB BKz1 hb; replace BKz2 := aB BKz2 hb; replace HB := aS HB hb; clear hb))
    go_ret
    exact ⟨rE, (hX HB.out)⟩
  subst c6
  rw [if_pos rfl] at H
  go_wp2_with (first | (refine goesM 51 15 Tryz.func51 #[.slice A0_2 l0_2.length c0_2, .slice A1_2 l1_2.length c1_2] ?_; refine (laws_eqThreadS.calls _ _ _ _ _ _ _ _ _ (cC HR0_2.out HB.out) HC0_2.out (cC HR1_2.out HB.out) HC1_2.out A5.out).mono ?_; rintro e wz4 ⟨rfl, hb⟩; refine ⟨_, rfl, ?_⟩; replace BKz1 := aB BKz1 hb; replace BKz2 := aB BKz2 hb; replace HB := aS HB hb; clear hb; obtain ⟨hczz33, hczz34, hczz35, hczz36, hczz37, hczz38, hczz39, hczz40, hfzz33, hfzz34, hfzz35, hfzz36, hfzz37, hfzz38, hfzz39, hfzz40⟩ := cZ8 BKz1.out; obtain ⟨hczz41, hczz42, hczz43, hczz44, hczz45, hczz46, hczz47, hczz48, hfzz41, hfzz42, hfzz43, hfzz44, hfzz45, hfzz46, hfzz47, hfzz48⟩ := cZ8 BKz2.out; refine Stop.out ?_))
  refine ⟨?_⟩
  by_cases c7 : a0_3 = a1_3
  case neg =>
    rw [if_neg c7] at H
    obtain ⟨c7b0, c7b1⟩ := eqF c7
    obtain rfl := sI H
    go_wp2
    go_ret
    exact ⟨rE, (hX HB.out)⟩
  rw [if_pos c7] at H
  obtain ⟨c7b0, c7b1⟩ := eqT c7
  clear c7
  replace H := bE H; obtain ⟨t105, A8, H⟩ := H
  by_cases c9 : t105 = true
  case neg =>
    replace c9 := Bool.eq_false_iff.mpr c9
    subst c9
    rw [if_neg nft] at H
    obtain rfl := sI H
    go_wp2_with (first | (refine goesM 52 26 Tryz.func52 #[.slice A0_4 l0_4.length c0_4, .slice A1_4 l1_4.length c1_4] ?_; refine (laws_eqCallS.calls _ _ _ _ _ _ _ _ _ (cC HR0_4.out HB.out) HC0_4.out (cC HR1_4.out HB.out) HC1_4.out A8.out).mono ?_; rintro e wz5 ⟨rfl, hb⟩; refine ⟨_, rfl, ?_⟩; replace BKz1 := aB BKz1 hb; replace BKz2 := aB BKz2 hb; replace HB := aS HB hb; clear hb))
    go_ret
    exact ⟨rE, (hX HB.out)⟩
  subst c9
  rw [if_pos rfl] at H
  replace H := bE H; obtain ⟨t106, A10, H⟩ := H
  go_wp2_with (first | (refine goesM 52 26 Tryz.func52 #[.slice A0_4 l0_4.length c0_4, .slice A1_4 l1_4.length c1_4] ?_; refine (laws_eqCallS.calls _ _ _ _ _ _ _ _ _ (cC HR0_4.out HB.out) HC0_4.out (cC HR1_4.out HB.out) HC1_4.out A8.out).mono ?_; rintro e wz5 ⟨rfl, hb⟩; refine ⟨_, rfl, ?_⟩; replace BKz1 := aB BKz1 hb; replace BKz2 := aB BKz2 hb; replace HB := aS HB hb; clear hb; obtain ⟨hczz49, hczz50, hczz51, hczz52, hczz53, hczz54, hczz55, hczz56, hfzz49, hfzz50, hfzz51, hfzz52, hfzz53, hfzz54, hfzz55, hfzz56⟩ := cZ8 BKz1.out; obtain ⟨hczz57, hczz58, hczz59, hczz60, hczz61, hczz62, hczz63, hczz64, hfzz57, hfzz58, hfzz59, hfzz60, hfzz61, hfzz62, hfzz63, hfzz64⟩ := cZ8 BKz2.out; refine Stop.out ?_))
  refine ⟨?_⟩
  by_cases c11 : t106 = true
  case neg =>
    replace c11 := Bool.eq_false_iff.mpr c11
    subst c11
    rw [if_neg nft] at H
    obtain rfl := sI H
    go_wp2_with (first | (refine goesM 53 32 Tryz.func53 #[.slice A0_5 l0_5.length c0_5, .slice A1_5 l1_5.length c1_5] ?_; refine (laws_eqIntS.calls _ _ _ _ _ _ _ _ _ (cC HR0_5.out HB.out) HC0_5.out (cC HR1_5.out HB.out) HC1_5.out A10.out).mono ?_; rintro e w' ⟨rfl, ⟨nd, rfl⟩⟩; refine ⟨_, rfl, ?_⟩))
    go_ret
    exact ⟨rE, (hX HB.out)⟩
  subst c11
  rw [if_pos rfl] at H
  replace H := bE H; obtain ⟨t107, A12, H⟩ := H
  go_wp2_with (first | (refine goesM 53 32 Tryz.func53 #[.slice A0_5 l0_5.length c0_5, .slice A1_5 l1_5.length c1_5] ?_; refine (laws_eqIntS.calls _ _ _ _ _ _ _ _ _ (cC HR0_5.out HB.out) HC0_5.out (cC HR1_5.out HB.out) HC1_5.out A10.out).mono ?_; rintro e w' ⟨rfl, ⟨nd, rfl⟩⟩; refine ⟨_, rfl, ?_⟩; refine Stop.out ?_))
  refine ⟨?_⟩
  by_cases c13 : t107 = true
  · subst c13
    rw [if_pos rfl] at H
    obtain rfl := sI H
    go_wp2_with (first | (refine goesM 23 38 Tryz.func23 #[.agg #[.slice A0_6 l0_6.length c0_6, .int .i64 a0_7], .agg #[.slice A1_6 l1_6.length c1_6, .int .i64 a1_7]] ?_; refine (laws_eqRows.calls _ _ _ _ _ _ _ _ _ _ _ (cC HR0_6.out HB.out) HC0_6.out (cC HR1_6.out HB.out) HC1_6.out A12.out).mono ?_; rintro e wz6 ⟨rfl, hb⟩; refine ⟨_, rfl, ?_⟩; replace BKz1 := aB BKz1 hb; replace BKz2 := aB BKz2 hb; replace HB := aS HB hb; clear hb))
    go_ret
    exact ⟨rE, (hX HB.out)⟩
  replace c13 := Bool.eq_false_iff.mpr c13
  subst c13
  rw [if_neg nft] at H
  obtain rfl := sI H
  go_wp2_with (first | (refine goesM 23 38 Tryz.func23 #[.agg #[.slice A0_6 l0_6.length c0_6, .int .i64 a0_7], .agg #[.slice A1_6 l1_6.length c1_6, .int .i64 a1_7]] ?_; refine (laws_eqRows.calls _ _ _ _ _ _ _ _ _ _ _ (cC HR0_6.out HB.out) HC0_6.out (cC HR1_6.out HB.out) HC1_6.out A12.out).mono ?_; rintro e wz6 ⟨rfl, hb⟩; refine ⟨_, rfl, ?_⟩; replace BKz1 := aB BKz1 hb; replace BKz2 := aB BKz2 hb; replace HB := aS HB hb; clear hb))
  go_ret
  exact ⟨rE, (hX HB.out)⟩
def laws_FnExactJudgeTimes.f (k : Nat) (l0_0 : List (S176)) (l0_1 : List (S155)) (l0_2 : List (S114)) (a0_3 : Int) (l0_4 : List (S119)) (l0_5 : List Int) (l0_6 : List Int) (a0_7 : Int) : Option (Bool) := (laws_szMachine.f k l0_0 l0_1 l0_2 a0_3 l0_4 l0_5 l0_6 a0_7 1048576).bind fun t102 => (if t102 < 0 then (some true) else ((laws_toMachine.f k l0_0 l0_1 l0_2 a0_3 l0_4 l0_5 l0_6 a0_7).bind fun bt103 => ((spec_JudgeTimes.f k bt103.1 bt103.2.1 bt103.2.2.1 bt103.2.2.2.1 bt103.2.2.2.2.1 bt103.2.2.2.2.2.1 bt103.2.2.2.2.2.2.1 bt103.2.2.2.2.2.2.2).bind fun t123 => ((laws_toMachine.f k l0_0 l0_1 l0_2 a0_3 l0_4 l0_5 l0_6 a0_7).bind fun bt124 => ((impl_JudgeTimes.f k bt124.1 bt124.2.1 bt124.2.2.1 bt124.2.2.2.1 bt124.2.2.2.2.1 bt124.2.2.2.2.2.1 bt124.2.2.2.2.2.2.1 bt124.2.2.2.2.2.2.2).bind fun t145 => (if (t145 != t123) = true then (some false) else ((laws_toMachine.f k l0_0 l0_1 l0_2 a0_3 l0_4 l0_5 l0_6 a0_7).bind fun bt146 => ((laws_eqMachine.f k bt124.1 bt124.2.1 bt124.2.2.1 bt124.2.2.2.1 bt124.2.2.2.2.1 bt124.2.2.2.2.2.1 bt124.2.2.2.2.2.2.1 bt124.2.2.2.2.2.2.2 bt146.1 bt146.2.1 bt146.2.2.1 bt146.2.2.2.1 bt146.2.2.2.2.1 bt146.2.2.2.2.2.1 bt146.2.2.2.2.2.2.1 bt146.2.2.2.2.2.2.2).bind fun t166 => (if t166 = true then (some true) else (some false))))))))))
set_option maxHeartbeats 8000000 in
set_option maxRecDepth 100000 in
theorem laws_FnExactJudgeTimes.calls (k : Nat) (A0_0 : Option Addr) (c0_0 : Nat) (l0_0 : List (S176)) (A0_1 : Option Addr) (c0_1 : Nat) (l0_1 : List (S155)) (A0_2 : Option Addr) (c0_2 : Nat) (l0_2 : List (S114)) (a0_3 : Int) (A0_4 : Option Addr) (c0_4 : Nat) (l0_4 : List (S119)) (A0_5 : Option Addr) (c0_5 : Nat) (l0_5 : List Int) (A0_6 : Option Addr) (c0_6 : Nat) (l0_6 : List Int) (a0_7 : Int) (r : Bool) (w : World) (hr0_0 : Kd.C k176 w A0_0 l0_0.length l0_0) (hc0_0 : l0_0.length ≤ c0_0) (hr0_1 : Kd.C k155 w A0_1 l0_1.length l0_1) (hc0_1 : l0_1.length ≤ c0_1) (hr0_2 : Kd.C k114 w A0_2 l0_2.length l0_2) (hc0_2 : l0_2.length ≤ c0_2) (hr0_4 : Kd.C k119 w A0_4 l0_4.length l0_4) (hc0_4 : l0_4.length ≤ c0_4) (hr0_5 : Kd.C (Kd.int .i64) w A0_5 l0_5.length l0_5) (hc0_5 : l0_5.length ≤ c0_5) (hr0_6 : Kd.C (Kd.int .i64) w A0_6 l0_6.length l0_6) (hc0_6 : l0_6.length ≤ c0_6) (h : laws_FnExactJudgeTimes.f k l0_0 l0_1 l0_2 a0_3 l0_4 l0_5 l0_6 a0_7 = some r) :
    Calls Tryz.prog 3 #[.agg #[.slice A0_0 l0_0.length c0_0, .slice A0_1 l0_1.length c0_1, .slice A0_2 l0_2.length c0_2, .int .i64 a0_3, .slice A0_4 l0_4.length c0_4, .slice A0_5 l0_5.length c0_5, .slice A0_6 l0_6.length c0_6, .int .i64 a0_7]] w fun e w' => e = .returned (.bool r) ∧ Below w.heap.size w w' := by
  have hu32 := Tryz.underlying32
  have hu43 := Tryz.underlying43
  have HR0_0 := aM hr0_0
  have HC0_0 := aM hc0_0
  clear hr0_0 hc0_0
  have HR0_1 := aM hr0_1
  have HC0_1 := aM hc0_1
  clear hr0_1 hc0_1
  have HR0_2 := aM hr0_2
  have HC0_2 := aM hc0_2
  clear hr0_2 hc0_2
  have HR0_4 := aM hr0_4
  have HC0_4 := aM hc0_4
  clear hr0_4 hc0_4
  have HR0_5 := aM hr0_5
  have HC0_5 := aM hc0_5
  clear hr0_5 hc0_5
  have HR0_6 := aM hr0_6
  have HC0_6 := aM hc0_6
  clear hr0_6 hc0_6
  have HB := aM (Below.refl w.heap.size w)
  have H := h
  unfold laws_FnExactJudgeTimes.f at H
  clear h
  replace H := bE H; obtain ⟨t102, A2, H⟩ := H
  go_enter Tryz.func3, Tryz.ntmps3
  go_wp2_with (first | (refine boxE 1 #[.slice A0_0 l0_0.length c0_0, .slice A0_1 l0_1.length c0_1, .slice A0_2 l0_2.length c0_2, .int .i64 a0_3, .slice A0_4 l0_4.length c0_4, .slice A0_5 l0_5.length c0_5, .slice A0_6 l0_6.length c0_6, .int .i64 a0_7] 32 ?_; intro gbz1 hg wz1 hbox hb; have BKz1 := aM (hbox); have GWz1 := aG hg HB; have GEz1 := aG hg HB; replace HB := aS HB hb; clear hb hbox hg; obtain ⟨hczz1, hczz2, hczz3, hczz4, hczz5, hczz6, hczz7, hczz8, hfzz1, hfzz2, hfzz3, hfzz4, hfzz5, hfzz6, hfzz7, hfzz8⟩ := cZ8 BKz1.out; refine Stop.out ?_))
  refine ⟨?_⟩
  by_cases c3 : t102 < 0
  · rw [if_pos c3] at H
    have c3b0 := decide_eq_true c3
    clear c3
    obtain rfl := sI H
    go_wp2_with (first | (refine goesM 10 9 Tryz.func10 #[.agg #[.slice A0_0 l0_0.length c0_0, .slice A0_1 l0_1.length c0_1, .slice A0_2 l0_2.length c0_2, .int .i64 a0_3, .slice A0_4 l0_4.length c0_4, .slice A0_5 l0_5.length c0_5, .slice A0_6 l0_6.length c0_6, .int .i64 a0_7], .int .i64 1048576] ?_; refine (laws_szMachine.calls _ _ _ _ _ _ _ _ _ _ _ _ _ _ _ _ _ _ _ _ _ _ _ _ (cC HR0_0.out HB.out) HC0_0.out (cC HR0_1.out HB.out) HC0_1.out (cC HR0_2.out HB.out) HC0_2.out (cC HR0_4.out HB.out) HC0_4.out (cC HR0_5.out HB.out) HC0_5.out (cC HR0_6.out HB.out) HC0_6.out A2.out).mono ?_; rintro e wz2 ⟨rfl, hb⟩; refine ⟨_, rfl, ?_⟩; replace BKz1 := aB BKz1 hb; replace HB := aS HB hb; clear hb))
    go_ret
    exact ⟨rE, (hX HB.out)⟩
  rw [if_neg c3] at H
  have c3b0 := decide_eq_false c3
  clear c3
  replace H := bE H; obtain ⟨⟨t103, t106, t109, t112, t113, t116, t119, t122⟩, A7, H⟩ := H
  try dsimp only at H
  replace H := bE H; obtain ⟨t123, A8, H⟩ := H
  replace H := bE H; obtain ⟨⟨t124, t127, t130, t133, t134, t137, t140, t143⟩, A9, H⟩ := H
  try dsimp only at H
  replace H := bE H; obtain ⟨t145, A10, H⟩ := H
  go_wp2_with (first | (refine goesM 10 9 Tryz.func10 #[.agg #[.slice A0_0 l0_0.length c0_0, .slice A0_1 l0_1.length c0_1, .slice A0_2 l0_2.length c0_2, .int .i64 a0_3, .slice A0_4 l0_4.length c0_4, .slice A0_5 l0_5.length c0_5, .slice A0_6 l0_6.length c0_6, .int .i64 a0_7], .int .i64 1048576] ?_; refine (laws_szMachine.calls _ _ _ _ _ _ _ _ _ _ _ _ _ _ _ _ _ _ _ _ _ _ _ _ (cC HR0_0.out HB.out) HC0_0.out (cC HR0_1.out HB.out) HC0_1.out (cC HR0_2.out HB.out) HC0_2.out (cC HR0_4.out HB.out) HC0_4.out (cC HR0_5.out HB.out) HC0_5.out (cC HR0_6.out HB.out) HC0_6.out A2.out).mono ?_; rintro e wz2 ⟨rfl, hb⟩; refine ⟨_, rfl, ?_⟩; replace BKz1 := aB BKz1 hb; replace HB := aS HB hb; clear hb; obtain ⟨hczz9, hczz10, hczz11, hczz12, hczz13, hczz14, hczz15, hczz16, hfzz9, hfzz10, hfzz11, hfzz12, hfzz13, hfzz14, hfzz15, hfzz16⟩ := cZ8 BKz1.out) | (refine goesM 12 13 Tryz.func12 #[.agg #[.slice A0_0 l0_0.length c0_0, .slice A0_1 l0_1.length c0_1, .slice A0_2 l0_2.length c0_2, .int .i64 a0_3, .slice A0_4 l0_4.length c0_4, .slice A0_5 l0_5.length c0_5, .slice A0_6 l0_6.length c0_6, .int .i64 a0_7]] ?_; refine (laws_toMachine.calls _ _ _ _ _ _ _ _ _ _ _ _ _ _ _ _ _ _ _ _ _ _ _ _ _ _ _ _ _ _ (cC HR0_0.out HB.out) HC0_0.out (cC HR0_1.out HB.out) HC0_1.out (cC HR0_2.out HB.out) HC0_2.out (cC HR0_4.out HB.out) HC0_4.out (cC HR0_5.out HB.out) HC0_5.out (cC HR0_6.out HB.out) HC0_6.out A7.out).mono ?_; rintro e wz3 ⟨vz1, vz2, vz3, vz4, vz5, vz6, rfl, hoz1, hoz2, hoz3, hoz4, hoz5, hoz6, hb⟩; refine ⟨_, rfl, ?_⟩; have HOz1 := aM (Kd.R_lower hoz1 (below_size (hX HB.out))); have HOz2 := aM (Kd.S_lower hoz2 (below_size (hX HB.out))); have HOz3 := aM (Kd.S_lower hoz3 (below_size (hX HB.out))); have HOz4 := aM (Kd.S_lower hoz4 (below_size (hX HB.out))); have HOz5 := aM (Kd.R_lower hoz5 (below_size (hX HB.out))); have HOz6 := aM (Kd.R_lower hoz6 (below_size (hX HB.out))); replace BKz1 := aB BKz1 hb; replace HB := aS HB hb; clear hb hoz1 hoz2 hoz3 hoz4 hoz5 hoz6; obtain ⟨Aoz1, coz1, eoz1⟩ := Kd.R_slice HOz1.out; subst eoz1; obtain ⟨Aoz2, coz2, eoz2⟩ := Kd.S_slice HOz2.out; subst eoz2; obtain ⟨Aoz3, coz3, eoz3⟩ := Kd.S_slice HOz3.out; subst eoz3; obtain ⟨Aoz4, coz4, eoz4⟩ := Kd.S_slice HOz4.out; subst eoz4; obtain ⟨Aoz5, coz5, eoz5⟩ := Kd.R_slice HOz5.out; subst eoz5; obtain ⟨Aoz6, coz6, eoz6⟩ := Kd.R_slice HOz6.out; subst eoz6) | (refine goesM 11 14 Tryz.func11 #[.agg #[.slice Aoz1 t103.length coz1, .slice Aoz2 t106.length coz2, .slice Aoz3 t109.length coz3, .int .i64 t112, .slice Aoz4 t113.length coz4, .slice Aoz5 t116.length coz5, .slice Aoz6 t119.length coz6, .int .i64 t122]] ?_; refine (spec_JudgeTimes.calls _ _ _ _ _ _ _ _ _ _ _ _ _ _ _ _ _ _ _ _ _ _ _ (cX (Kd.R_reads' HOz1.out).2.2) ((Kd.R_reads' HOz1.out).2.1) (cX (Kd.S_reads' HOz2.out).2.2) ((Kd.S_reads' HOz2.out).2.1) (cX (Kd.S_reads' HOz3.out).2.2) ((Kd.S_reads' HOz3.out).2.1) (cX (Kd.S_reads' HOz4.out).2.2) ((Kd.S_reads' HOz4.out).2.1) (cX (Kd.R_reads' HOz5.out).2.2) ((Kd.R_reads' HOz5.out).2.1) (cX (Kd.R_reads' HOz6.out).2.2) ((Kd.R_reads' HOz6.out).2.1) A8.out).mono ?_; rintro e wz4 ⟨rfl, hb⟩; refine ⟨_, rfl, ?_⟩; replace HOz1 := aQ HOz1 hb; replace HOz2 := aT HOz2 hb; replace HOz3 := aT HOz3 hb; replace HOz4 := aT HOz4 hb; replace HOz5 := aQ HOz5 hb; replace HOz6 := aQ HOz6 hb; replace BKz1 := aB BKz1 hb; replace HB := aS HB hb; clear hb; obtain ⟨hczz17, hczz18, hczz19, hczz20, hczz21, hczz22, hczz23, hczz24, hfzz17, hfzz18, hfzz19, hfzz20, hfzz21, hfzz22, hfzz23, hfzz24⟩ := cZ8 BKz1.out) | (refine goesM 12 16 Tryz.func12 #[.agg #[.slice A0_0 l0_0.length c0_0, .slice A0_1 l0_1.length c0_1, .slice A0_2 l0_2.length c0_2, .int .i64 a0_3, .slice A0_4 l0_4.length c0_4, .slice A0_5 l0_5.length c0_5, .slice A0_6 l0_6.length c0_6, .int .i64 a0_7]] ?_; refine (laws_toMachine.calls _ _ _ _ _ _ _ _ _ _ _ _ _ _ _ _ _ _ _ _ _ _ _ _ _ _ _ _ _ _ (cC HR0_0.out HB.out) HC0_0.out (cC HR0_1.out HB.out) HC0_1.out (cC HR0_2.out HB.out) HC0_2.out (cC HR0_4.out HB.out) HC0_4.out (cC HR0_5.out HB.out) HC0_5.out (cC HR0_6.out HB.out) HC0_6.out A9.out).mono ?_; rintro e wz5 ⟨vz7, vz8, vz9, vz10, vz11, vz12, rfl, hoz1, hoz2, hoz3, hoz4, hoz5, hoz6, hb⟩; refine ⟨_, rfl, ?_⟩; have HOz7 := aM (Kd.R_lower (Kd.R_new' hoz1 (Kd.R_lt (rX HOz1.out))) (below_size (hX HB.out))); have HOz8 := aM (Kd.S_lower (Kd.S_new' (Kd.S_new' (Kd.S_new' hoz2 (Kd.S_lt (sX HOz2.out))) (Kd.R_lt (rX HOz5.out))) (Kd.R_lt (rX HOz6.out))) (below_size (hX HB.out))); have HOz9 := aM (Kd.S_lower (Kd.S_new' hoz3 (Kd.S_lt (sX HOz3.out))) (below_size (hX HB.out))); have HOz10 := aM (Kd.S_lower (Kd.S_new' (Kd.S_new' (Kd.S_new' hoz4 (Kd.S_lt (sX HOz4.out))) (Kd.R_lt (rX HOz5.out))) (Kd.R_lt (rX HOz6.out))) (below_size (hX HB.out))); have HOz11 := aM (Kd.R_lower (Kd.R_new' (Kd.R_new' hoz5 (Kd.R_lt (rX HOz5.out))) (Kd.R_lt (rX HOz6.out))) (below_size (hX HB.out))); have HOz12 := aM (Kd.R_lower (Kd.R_new' (Kd.R_new' hoz6 (Kd.R_lt (rX HOz5.out))) (Kd.R_lt (rX HOz6.out))) (below_size (hX HB.out))); replace HOz1 := aM (Kd.R_elder' (rX HOz1.out) (Kd.R_base hoz1) hb); replace HOz2 := aM (Kd.S_mono (Kd.S_told (Kd.S_told (Kd.S_told (Kd.S_old (sX HOz2.out) hb) (Kd.S_base hoz2)) (Kd.R_base hoz5)) (Kd.R_base hoz6)) (fun _ h_ => h_.1)); replace HOz3 := aM (Kd.S_elder' (sX HOz3.out) (Kd.S_base hoz3) hb); replace HOz4 := aM (Kd.S_mono (Kd.S_told (Kd.S_told (Kd.S_told (Kd.S_old (sX HOz4.out) hb) (Kd.S_base hoz4)) (Kd.R_base hoz5)) (Kd.R_base hoz6)) (fun _ h_ => h_.1)); replace HOz5 := aM (Kd.R_mono (Kd.R_told (Kd.R_told (Kd.R_old (rX HOz5.out) hb) (Kd.R_base hoz5)) (Kd.R_base hoz6)) (fun _ h_ => h_.1)); replace HOz6 := aM (Kd.R_mono (Kd.R_told (Kd.R_told (Kd.R_old (rX HOz6.out) hb) (Kd.R_base hoz5)) (Kd.R_base hoz6)) (fun _ h_ => h_.1)); replace BKz1 := aB BKz1 hb; replace HB := aS HB hb; clear hb hoz1 hoz2 hoz3 hoz4 hoz5 hoz6) | (refine boxE 5 #[.slice none 0 0, .slice none 0 0, .slice none 0 0, .int .i64 0, .slice none 0 0, .slice none 0 0, .slice none 0 0, .int .i64 0] 43 ?_; intro gbz2 hg wz6 hbox hb; have BKz2 := aM (hbox); have GWz2 := aG hg HB; have GEz2 := aG hg HB; have NBz1 := aL hg BKz1; have NBz2 := aR hg BKz1; replace HOz1 := aQ HOz1 hb; replace HOz2 := aT HOz2 hb; replace HOz3 := aT HOz3 hb; replace HOz4 := aT HOz4 hb; replace HOz5 := aQ HOz5 hb; replace HOz6 := aQ HOz6 hb; replace HOz7 := aQ HOz7 hb; replace HOz8 := aT HOz8 hb; replace HOz9 := aT HOz9 hb; replace HOz10 := aT HOz10 hb; replace HOz11 := aQ HOz11 hb; replace HOz12 := aQ HOz12 hb; replace BKz1 := aB BKz1 hb; replace HB := aS HB hb; clear hb hbox hg; obtain ⟨Aoz7, coz7, eoz7⟩ := Kd.R_slice HOz7.out; subst eoz7; have hnbz1 := NBz2.out; have hncz1 := NBz1.out; obtain ⟨hczz25, hczz26, hczz27, hczz28, hczz29, hczz30, hczz31, hczz32, hfzz25, hfzz26, hfzz27, hfzz28, hfzz29, hfzz30, hfzz31, hfzz32⟩ := cZ8 BKz2.out; obtain ⟨Aoz8, coz8, eoz8⟩ := Kd.S_slice HOz8.out; subst eoz8; obtain ⟨Aoz9, coz9, eoz9⟩ := Kd.S_slice HOz9.out; subst eoz9; obtain ⟨Aoz10, coz10, eoz10⟩ := Kd.S_slice HOz10.out; subst eoz10; obtain ⟨Aoz11, coz11, eoz11⟩ := Kd.R_slice HOz11.out; subst eoz11; obtain ⟨Aoz12, coz12, eoz12⟩ := Kd.R_slice HOz12.out; subst eoz12) | (refine goesM 13 18 Tryz.func13 #[.agg #[.slice Aoz7 t124.length coz7, .slice Aoz8 t127.length coz8, .slice Aoz9 t130.length coz9, .int .i64 t133, .slice Aoz10 t134.length coz10, .slice Aoz11 t137.length coz11, .slice Aoz12 t140.length coz12, .int .i64 t143]] ?_; refine (impl_JudgeTimes.calls _ _ _ _ _ _ _ _ _ _ _ _ _ _ _ _ _ _ _ _ _ _ _ (rR HOz7.out BKz2.out) ((Kd.R_reads' HOz7.out).2.1) (sR HOz8.out BKz2.out) ((Kd.S_reads' HOz8.out).2.1) (sR HOz9.out BKz2.out) ((Kd.S_reads' HOz9.out).2.1) (sR HOz10.out BKz2.out) ((Kd.S_reads' HOz10.out).2.1) (rR HOz11.out BKz2.out) ((Kd.R_reads' HOz11.out).2.1) (rR HOz12.out BKz2.out) ((Kd.R_reads' HOz12.out).2.1) A10.out).mono ?_; rintro e wz7 ⟨rfl, hb⟩; refine ⟨_, rfl, ?_⟩; replace HOz1 := aM (Kd.R_below (rF HOz1.out BKz2.out) hb); replace HOz2 := aM (Kd.S_below (sF HOz2.out BKz2.out) hb); replace HOz3 := aM (Kd.S_below (sF HOz3.out BKz2.out) hb); replace HOz4 := aM (Kd.S_below (sF HOz4.out BKz2.out) hb); replace HOz5 := aM (Kd.R_below (rF HOz5.out BKz2.out) hb); replace HOz6 := aM (Kd.R_below (rF HOz6.out BKz2.out) hb); replace HOz7 := aM (Kd.R_below (rF HOz7.out BKz2.out) hb); replace HOz8 := aM (Kd.S_below (sF HOz8.out BKz2.out) hb); replace HOz9 := aM (Kd.S_below (sF HOz9.out BKz2.out) hb); replace HOz10 := aM (Kd.S_below (sF HOz10.out BKz2.out) hb); replace HOz11 := aM (Kd.R_below (rF HOz11.out BKz2.out) hb); replace HOz12 := aM (Kd.R_below (rF HOz12.out BKz2.out) hb); replace BKz1 := aF BKz1 hb; replace BKz2 := aM (blk_below (g := gbz2) (o := .cells #[.slice Aoz7 t124.length coz7, .slice Aoz8 t127.length coz8, .slice Aoz9 t130.length coz9, .int .i64 t133, .slice Aoz10 t134.length coz10, .slice Aoz11 t137.length coz11, .slice Aoz12 t140.length coz12, .int .i64 t143] 43 (0, 0)) (bP BKz2.out) hb); replace HB := aS HB hb; clear hb; refine Stop.out ?_))
  refine ⟨?_⟩
  by_cases c11 : (t145 != t123) = true
  · rw [if_pos c11] at H
    have c11b0 : (t145 != t123) = true := c11
    (try (have c11b1 : decide (t145 = t123) = false := by simpa using c11))
    (try (have c11b2 : (t145 == t123) = false := by simpa using c11))
    (try (have c11b3 : ¬ (t145 = t123) := by simpa using c11))
    clear c11
    obtain rfl := sI H
    go_wp2
    go_ret
    exact ⟨rE, (hX HB.out)⟩
  rw [if_neg c11] at H
  have c11b0 : (t145 != t123) = false := by simpa using c11
  (try (have c11b1 : decide (t145 = t123) = true := by simpa using c11))
  (try (have c11b2 : (t145 == t123) = true := by simpa using c11))
  clear c11
  replace H := bE H; obtain ⟨⟨t146, t149, t152, t155, t156, t159, t162, t165⟩, A36, H⟩ := H
  try dsimp only at H
  replace H := bE H; obtain ⟨t166, A37, H⟩ := H
  try go_wp2
  replace HOz1 := aM (Kd.R_drew HOz1.out)
  replace HOz2 := aM (Kd.S_drew HOz2.out)
  replace HOz3 := aM (Kd.S_drew HOz3.out)
  replace HOz4 := aM (Kd.S_drew HOz4.out)
  replace HOz5 := aM (Kd.R_drew HOz5.out)
  replace HOz6 := aM (Kd.R_drew HOz6.out)
  replace HOz7 := aM (Kd.R_drew HOz7.out)
  replace HOz8 := aM (Kd.S_drew HOz8.out)
  replace HOz9 := aM (Kd.S_drew HOz9.out)
  replace HOz10 := aM (Kd.S_drew HOz10.out)
  replace HOz11 := aM (Kd.R_drew HOz11.out)
  replace HOz12 := aM (Kd.R_drew HOz12.out)
  replace BKz1 := aM (blk_drew BKz1.out)
  replace BKz2 := aM (blk_drew BKz2.out)
  replace HB := aM (below_drew1 HB.out)
  refine start_ (n := 5) (S := fun w' => w'.cell? ⟨gbz2, 0, none⟩ = some (.slice Aoz7 t124.length coz7) ∧ w'.cell? ⟨gbz2, 1, none⟩ = some (.slice Aoz8 t127.length coz8) ∧ w'.cell? ⟨gbz2, 2, none⟩ = some (.slice Aoz9 t130.length coz9) ∧ w'.cell? ⟨gbz2, 3, none⟩ = some (.int .i64 t133) ∧ w'.cell? ⟨gbz2, 4, none⟩ = some (.slice Aoz10 t134.length coz10) ∧ w'.cell? ⟨gbz2, 5, none⟩ = some (.slice Aoz11 t137.length coz11) ∧ w'.cell? ⟨gbz2, 6, none⟩ = some (.slice Aoz12 t140.length coz12) ∧ w'.cell? ⟨gbz2, 7, none⟩ = some (.int .i64 t143) ∧ w'.cell? ⟨gbz1, 0, none⟩ = some (.slice A0_0 l0_0.length c0_0) ∧ w'.cell? ⟨gbz1, 1, none⟩ = some (.slice A0_1 l0_1.length c0_1) ∧ w'.cell? ⟨gbz1, 2, none⟩ = some (.slice A0_2 l0_2.length c0_2) ∧ w'.cell? ⟨gbz1, 3, none⟩ = some (.int .i64 a0_3) ∧ w'.cell? ⟨gbz1, 4, none⟩ = some (.slice A0_4 l0_4.length c0_4) ∧ w'.cell? ⟨gbz1, 5, none⟩ = some (.slice A0_5 l0_5.length c0_5) ∧ w'.cell? ⟨gbz1, 6, none⟩ = some (.slice A0_6 l0_6.length c0_6) ∧ w'.cell? ⟨gbz1, 7, none⟩ = some (.int .i64 a0_7)) (ds := []) (bm 5 0) (by kernel_rfl) rfl (by kernel_rfl) ⟨cK BKz2.out 0, cK BKz2.out 1, cK BKz2.out 2, cK BKz2.out 3, cK BKz2.out 4, cK BKz2.out 5, cK BKz2.out 6, cK BKz2.out 7, cK BKz1.out 0, cK BKz1.out 1, cK BKz1.out 2, cK BKz1.out 3, cK BKz1.out 4, cK BKz1.out 5, cK BKz1.out 6, cK BKz1.out 7⟩ (fun hHeld => ?_)
  generalize wz7.drew = wz8 at HOz1 HOz2 HOz3 HOz4 HOz5 HOz6 HOz7 HOz8 HOz9 HOz10 HOz11 HOz12 BKz1 BKz2 HB hHeld ⊢
  refine tK 0 22 (bm 5 1) hHeld ?_
  refine tK 1 23 (bm 5 3) hHeld ?_
  refine oK 2 (some 24) (bm 5 7) (fun K hK => ?_)
  refine goesN Tryz.func12 #[.agg #[.slice A0_0 l0_0.length c0_0, .slice A0_1 l0_1.length c0_1, .slice A0_2 l0_2.length c0_2, .int .i64 a0_3, .slice A0_4 l0_4.length c0_4, .slice A0_5 l0_5.length c0_5, .slice A0_6 l0_6.length c0_6, .int .i64 a0_7]] ?_
  with_reducible refine (laws_toMachine.calls k _ _ l0_0 _ _ l0_1 _ _ l0_2 a0_3 _ _ l0_4 _ _ l0_5 _ _ l0_6 a0_7 t146 t149 t152 t155 t156 t159 t162 t165 _ ?side1 ?side2 ?side3 ?side4 ?side5 ?side6 ?side7 ?side8 ?side9 ?side10 ?side11 ?side12 A36.out).mono ?_
  (case side1 => repeat (first | exact (Kd.C_below HR0_0.out HB.out) | (with_reducible refine Kd.C_alloc ?_ _) | (with_reducible refine Kd.C_drewN ?_ _) | (with_reducible refine Kd.C_drew ?_)))
  (case side2 => exact HC0_0.out)
  (case side3 => repeat (first | exact (Kd.C_below HR0_1.out HB.out) | (with_reducible refine Kd.C_alloc ?_ _) | (with_reducible refine Kd.C_drewN ?_ _) | (with_reducible refine Kd.C_drew ?_)))
  (case side4 => exact HC0_1.out)
  (case side5 => repeat (first | exact (Kd.C_below HR0_2.out HB.out) | (with_reducible refine Kd.C_alloc ?_ _) | (with_reducible refine Kd.C_drewN ?_ _) | (with_reducible refine Kd.C_drew ?_)))
  (case side6 => exact HC0_2.out)
  (case side7 => repeat (first | exact (Kd.C_below HR0_4.out HB.out) | (with_reducible refine Kd.C_alloc ?_ _) | (with_reducible refine Kd.C_drewN ?_ _) | (with_reducible refine Kd.C_drew ?_)))
  (case side8 => exact HC0_4.out)
  (case side9 => repeat (first | exact (Kd.C_below HR0_5.out HB.out) | (with_reducible refine Kd.C_alloc ?_ _) | (with_reducible refine Kd.C_drewN ?_ _) | (with_reducible refine Kd.C_drew ?_)))
  (case side10 => exact HC0_5.out)
  (case side11 => repeat (first | exact (Kd.C_below HR0_6.out HB.out) | (with_reducible refine Kd.C_alloc ?_ _) | (with_reducible refine Kd.C_drewN ?_ _) | (with_reducible refine Kd.C_drew ?_)))
  (case side12 => exact HC0_6.out)
  rintro e wz9 ⟨vz13, vz14, vz15, vz16, vz17, vz18, rfl, hoz1, hoz2, hoz3, hoz4, hoz5, hoz6, hb⟩
  refine ⟨_, rfl, ?_⟩
  have HOz13 := aM (Kd.R_lower (Kd.R_new' (Kd.R_new' hoz1 (Kd.R_lt (rX HOz1.out))) (Kd.R_lt (rX HOz7.out))) (below_size (hX HB.out)))
  have HOz14 := aM (Kd.S_lower (Kd.S_new' (Kd.S_new' (Kd.S_new' (Kd.S_new' (Kd.S_new' (Kd.S_new' hoz2 (Kd.S_lt (sX HOz2.out))) (Kd.R_lt (rX HOz5.out))) (Kd.R_lt (rX HOz6.out))) (Kd.S_lt (sX HOz8.out))) (Kd.R_lt (rX HOz11.out))) (Kd.R_lt (rX HOz12.out))) (below_size (hX HB.out)))
  have HOz15 := aM (Kd.S_lower (Kd.S_new' (Kd.S_new' hoz3 (Kd.S_lt (sX HOz3.out))) (Kd.S_lt (sX HOz9.out))) (below_size (hX HB.out)))
  have HOz16 := aM (Kd.S_lower (Kd.S_new' (Kd.S_new' (Kd.S_new' (Kd.S_new' (Kd.S_new' (Kd.S_new' hoz4 (Kd.S_lt (sX HOz4.out))) (Kd.R_lt (rX HOz5.out))) (Kd.R_lt (rX HOz6.out))) (Kd.S_lt (sX HOz10.out))) (Kd.R_lt (rX HOz11.out))) (Kd.R_lt (rX HOz12.out))) (below_size (hX HB.out)))
  have HOz17 := aM (Kd.R_lower (Kd.R_new' (Kd.R_new' (Kd.R_new' (Kd.R_new' hoz5 (Kd.R_lt (rX HOz5.out))) (Kd.R_lt (rX HOz6.out))) (Kd.R_lt (rX HOz11.out))) (Kd.R_lt (rX HOz12.out))) (below_size (hX HB.out)))
  have HOz18 := aM (Kd.R_lower (Kd.R_new' (Kd.R_new' (Kd.R_new' (Kd.R_new' hoz6 (Kd.R_lt (rX HOz5.out))) (Kd.R_lt (rX HOz6.out))) (Kd.R_lt (rX HOz11.out))) (Kd.R_lt (rX HOz12.out))) (below_size (hX HB.out)))
  replace HOz1 := aM (Kd.R_elder' (rX HOz1.out) (Kd.R_base hoz1) hb)
  replace HOz2 := aM (Kd.S_mono (Kd.S_told (Kd.S_told (Kd.S_told (Kd.S_old (sX HOz2.out) hb) (Kd.S_base hoz2)) (Kd.R_base hoz5)) (Kd.R_base hoz6)) (fun _ h_ => h_.1))
  replace HOz3 := aM (Kd.S_elder' (sX HOz3.out) (Kd.S_base hoz3) hb)
  replace HOz4 := aM (Kd.S_mono (Kd.S_told (Kd.S_told (Kd.S_told (Kd.S_old (sX HOz4.out) hb) (Kd.S_base hoz4)) (Kd.R_base hoz5)) (Kd.R_base hoz6)) (fun _ h_ => h_.1))
  replace HOz5 := aM (Kd.R_mono (Kd.R_told (Kd.R_told (Kd.R_old (rX HOz5.out) hb) (Kd.R_base hoz5)) (Kd.R_base hoz6)) (fun _ h_ => h_.1))
  replace HOz6 := aM (Kd.R_mono (Kd.R_told (Kd.R_told (Kd.R_old (rX HOz6.out) hb) (Kd.R_base hoz5)) (Kd.R_base hoz6)) (fun _ h_ => h_.1))
  replace HOz7 := aM (Kd.R_elder' (rX HOz7.out) (Kd.R_base hoz1) hb)
  replace HOz8 := aM (Kd.S_mono (Kd.S_told (Kd.S_told (Kd.S_told (Kd.S_old (sX HOz8.out) hb) (Kd.S_base hoz2)) (Kd.R_base hoz5)) (Kd.R_base hoz6)) (fun _ h_ => h_.1))
  replace HOz9 := aM (Kd.S_elder' (sX HOz9.out) (Kd.S_base hoz3) hb)
  replace HOz10 := aM (Kd.S_mono (Kd.S_told (Kd.S_told (Kd.S_told (Kd.S_old (sX HOz10.out) hb) (Kd.S_base hoz4)) (Kd.R_base hoz5)) (Kd.R_base hoz6)) (fun _ h_ => h_.1))
  replace HOz11 := aM (Kd.R_mono (Kd.R_told (Kd.R_told (Kd.R_old (rX HOz11.out) hb) (Kd.R_base hoz5)) (Kd.R_base hoz6)) (fun _ h_ => h_.1))
  replace HOz12 := aM (Kd.R_mono (Kd.R_told (Kd.R_told (Kd.R_old (rX HOz12.out) hb) (Kd.R_base hoz5)) (Kd.R_base hoz6)) (fun _ h_ => h_.1))
  replace BKz1 := aB BKz1 hb
  replace BKz2 := aB BKz2 hb
  replace HB := aS HB hb
  (try clear hb)
  (try clear hb2)
  (try clear hk)
  (try clear hi)
  (try clear hoz1)
  (try clear hoz2)
  (try clear hoz3)
  (try clear hoz4)
  (try clear hoz5)
  (try clear hoz6)
  obtain ⟨Aoz13, coz13, eoz13⟩ := Kd.R_slice HOz13.out
  (first | subst eoz13 | (injection eoz13 with f1_ f2_ f3_; have fz1 := f1_.symm; have fz2 := f3_.symm; clear f1_ f2_ f3_; subst fz1; subst fz2))
  obtain ⟨Aoz14, coz14, eoz14⟩ := Kd.S_slice HOz14.out
  (first | subst eoz14 | (injection eoz14 with f1_ f2_ f3_; have fz1 := f1_.symm; have fz2 := f3_.symm; clear f1_ f2_ f3_; subst fz1; subst fz2))
  obtain ⟨Aoz15, coz15, eoz15⟩ := Kd.S_slice HOz15.out
  (first | subst eoz15 | (injection eoz15 with f1_ f2_ f3_; have fz1 := f1_.symm; have fz2 := f3_.symm; clear f1_ f2_ f3_; subst fz1; subst fz2))
  obtain ⟨Aoz16, coz16, eoz16⟩ := Kd.S_slice HOz16.out
  (first | subst eoz16 | (injection eoz16 with f1_ f2_ f3_; have fz1 := f1_.symm; have fz2 := f3_.symm; clear f1_ f2_ f3_; subst fz1; subst fz2))
  obtain ⟨Aoz17, coz17, eoz17⟩ := Kd.R_slice HOz17.out
  (first | subst eoz17 | (injection eoz17 with f1_ f2_ f3_; have fz1 := f1_.symm; have fz2 := f3_.symm; clear f1_ f2_ f3_; subst fz1; subst fz2))
  obtain ⟨Aoz18, coz18, eoz18⟩ := Kd.R_slice HOz18.out
  (first | subst eoz18 | (injection eoz18 with f1_ f2_ f3_; have fz1 := f1_.symm; have fz2 := f3_.symm; clear f1_ f2_ f3_; subst fz1; subst fz2))
  refine hK.out _ _ ⟨cK BKz2.out 0, cK BKz2.out 1, cK BKz2.out 2, cK BKz2.out 3, cK BKz2.out 4, cK BKz2.out 5, cK BKz2.out 6, cK BKz2.out 7, cK BKz1.out 0, cK BKz1.out 1, cK BKz1.out 2, cK BKz1.out 3, cK BKz1.out 4, cK BKz1.out 5, cK BKz1.out 6, cK BKz1.out 7⟩ (fun hHeld => ?_)
  clear hK K
  refine nZ 24 ?_
  by_cases c38 : t166 = true
  · subst c38
    rw [if_pos rfl] at H
    obtain rfl := sI H
    refine oK 3 (some 25) (bm 5 15) (fun K hK => ?_)
    refine goesN Tryz.func14 #[.agg #[.slice Aoz7 t124.length coz7, .slice Aoz8 t127.length coz8, .slice Aoz9 t130.length coz9, .int .i64 t133, .slice Aoz10 t134.length coz10, .slice Aoz11 t137.length coz11, .slice Aoz12 t140.length coz12, .int .i64 t143], .agg #[.slice Aoz13 t146.length coz13, .slice Aoz14 t149.length coz14, .slice Aoz15 t152.length coz15, .int .i64 t155, .slice Aoz16 t156.length coz16, .slice Aoz17 t159.length coz17, .slice Aoz18 t162.length coz18, .int .i64 t165]] ?_
    with_reducible refine (laws_eqMachine.calls k _ _ t124 _ _ t127 _ _ t130 t133 _ _ t134 _ _ t137 _ _ t140 t143 _ _ t146 _ _ t149 _ _ t152 t155 _ _ t156 _ _ t159 _ _ t162 t165 true _ ?side1 ?side2 ?side3 ?side4 ?side5 ?side6 ?side7 ?side8 ?side9 ?side10 ?side11 ?side12 ?side13 ?side14 ?side15 ?side16 ?side17 ?side18 ?side19 ?side20 ?side21 ?side22 ?side23 ?side24 A37.out).mono ?_
    (case side1 => repeat (first | exact (Kd.R_reads' HOz7.out).2.2 | (with_reducible refine Kd.C_alloc ?_ _) | (with_reducible refine Kd.C_drewN ?_ _) | (with_reducible refine Kd.C_drew ?_)))
    (case side2 => exact (Kd.R_reads' HOz7.out).2.1)
    (case side3 => repeat (first | exact (Kd.S_reads' HOz8.out).2.2 | (with_reducible refine Kd.C_alloc ?_ _) | (with_reducible refine Kd.C_drewN ?_ _) | (with_reducible refine Kd.C_drew ?_)))
    (case side4 => exact (Kd.S_reads' HOz8.out).2.1)
    (case side5 => repeat (first | exact (Kd.S_reads' HOz9.out).2.2 | (with_reducible refine Kd.C_alloc ?_ _) | (with_reducible refine Kd.C_drewN ?_ _) | (with_reducible refine Kd.C_drew ?_)))
    (case side6 => exact (Kd.S_reads' HOz9.out).2.1)
    (case side7 => repeat (first | exact (Kd.S_reads' HOz10.out).2.2 | (with_reducible refine Kd.C_alloc ?_ _) | (with_reducible refine Kd.C_drewN ?_ _) | (with_reducible refine Kd.C_drew ?_)))
    (case side8 => exact (Kd.S_reads' HOz10.out).2.1)
    (case side9 => repeat (first | exact (Kd.R_reads' HOz11.out).2.2 | (with_reducible refine Kd.C_alloc ?_ _) | (with_reducible refine Kd.C_drewN ?_ _) | (with_reducible refine Kd.C_drew ?_)))
    (case side10 => exact (Kd.R_reads' HOz11.out).2.1)
    (case side11 => repeat (first | exact (Kd.R_reads' HOz12.out).2.2 | (with_reducible refine Kd.C_alloc ?_ _) | (with_reducible refine Kd.C_drewN ?_ _) | (with_reducible refine Kd.C_drew ?_)))
    (case side12 => exact (Kd.R_reads' HOz12.out).2.1)
    (case side13 => repeat (first | exact (Kd.R_reads' HOz13.out).2.2 | (with_reducible refine Kd.C_alloc ?_ _) | (with_reducible refine Kd.C_drewN ?_ _) | (with_reducible refine Kd.C_drew ?_)))
    (case side14 => exact (Kd.R_reads' HOz13.out).2.1)
    (case side15 => repeat (first | exact (Kd.S_reads' HOz14.out).2.2 | (with_reducible refine Kd.C_alloc ?_ _) | (with_reducible refine Kd.C_drewN ?_ _) | (with_reducible refine Kd.C_drew ?_)))
    (case side16 => exact (Kd.S_reads' HOz14.out).2.1)
    (case side17 => repeat (first | exact (Kd.S_reads' HOz15.out).2.2 | (with_reducible refine Kd.C_alloc ?_ _) | (with_reducible refine Kd.C_drewN ?_ _) | (with_reducible refine Kd.C_drew ?_)))
    (case side18 => exact (Kd.S_reads' HOz15.out).2.1)
    (case side19 => repeat (first | exact (Kd.S_reads' HOz16.out).2.2 | (with_reducible refine Kd.C_alloc ?_ _) | (with_reducible refine Kd.C_drewN ?_ _) | (with_reducible refine Kd.C_drew ?_)))
    (case side20 => exact (Kd.S_reads' HOz16.out).2.1)
    (case side21 => repeat (first | exact (Kd.R_reads' HOz17.out).2.2 | (with_reducible refine Kd.C_alloc ?_ _) | (with_reducible refine Kd.C_drewN ?_ _) | (with_reducible refine Kd.C_drew ?_)))
    (case side22 => exact (Kd.R_reads' HOz17.out).2.1)
    (case side23 => repeat (first | exact (Kd.R_reads' HOz18.out).2.2 | (with_reducible refine Kd.C_alloc ?_ _) | (with_reducible refine Kd.C_drewN ?_ _) | (with_reducible refine Kd.C_drew ?_)))
    (case side24 => exact (Kd.R_reads' HOz18.out).2.1)
    rintro e wz10 ⟨rfl, hb⟩
    refine ⟨_, rfl, ?_⟩
    replace HOz1 := aQ HOz1 hb
    replace HOz2 := aT HOz2 hb
    replace HOz3 := aT HOz3 hb
    replace HOz4 := aT HOz4 hb
    replace HOz5 := aQ HOz5 hb
    replace HOz6 := aQ HOz6 hb
    replace HOz7 := aQ HOz7 hb
    replace HOz8 := aT HOz8 hb
    replace HOz9 := aT HOz9 hb
    replace HOz10 := aT HOz10 hb
    replace HOz11 := aQ HOz11 hb
    replace HOz12 := aQ HOz12 hb
    replace HOz13 := aQ HOz13 hb
    replace HOz14 := aT HOz14 hb
    replace HOz15 := aT HOz15 hb
    replace HOz16 := aT HOz16 hb
    replace HOz17 := aQ HOz17 hb
    replace HOz18 := aQ HOz18 hb
    replace BKz1 := aB BKz1 hb
    replace BKz2 := aB BKz2 hb
    replace HB := aS HB hb
    (try clear hb)
    (try clear hb2)
    (try clear hk)
    (try clear hi)
    refine hK.out _ _ ⟨cK BKz2.out 0, cK BKz2.out 1, cK BKz2.out 2, cK BKz2.out 3, cK BKz2.out 4, cK BKz2.out 5, cK BKz2.out 6, cK BKz2.out 7, cK BKz1.out 0, cK BKz1.out 1, cK BKz1.out 2, cK BKz1.out 3, cK BKz1.out 4, cK BKz1.out 5, cK BKz1.out 6, cK BKz1.out 7⟩ (fun hHeld => ?_)
    clear hK K
    refine nZ 25 ?_
    refine pK 4 26 (bm 5 31) ?_
    refine done_ (by kernel_rfl) ?_
    try go_wp2
    go_ret
    exact ⟨rE, (hX HB.out)⟩
  replace c38 := Bool.eq_false_iff.mpr c38
  subst c38
  rw [if_neg nft] at H
  obtain rfl := sI H
  refine oK 3 (some 25) (bm 5 15) (fun K hK => ?_)
  refine goesN Tryz.func14 #[.agg #[.slice Aoz7 t124.length coz7, .slice Aoz8 t127.length coz8, .slice Aoz9 t130.length coz9, .int .i64 t133, .slice Aoz10 t134.length coz10, .slice Aoz11 t137.length coz11, .slice Aoz12 t140.length coz12, .int .i64 t143], .agg #[.slice Aoz13 t146.length coz13, .slice Aoz14 t149.length coz14, .slice Aoz15 t152.length coz15, .int .i64 t155, .slice Aoz16 t156.length coz16, .slice Aoz17 t159.length coz17, .slice Aoz18 t162.length coz18, .int .i64 t165]] ?_
  with_reducible refine (laws_eqMachine.calls k _ _ t124 _ _ t127 _ _ t130 t133 _ _ t134 _ _ t137 _ _ t140 t143 _ _ t146 _ _ t149 _ _ t152 t155 _ _ t156 _ _ t159 _ _ t162 t165 false _ ?side1 ?side2 ?side3 ?side4 ?side5 ?side6 ?side7 ?side8 ?side9 ?side10 ?side11 ?side12 ?side13 ?side14 ?side15 ?side16 ?side17 ?side18 ?side19 ?side20 ?side21 ?side22 ?side23 ?side24 A37.out).mono ?_
  (case side1 => repeat (first | exact (Kd.R_reads' HOz7.out).2.2 | (with_reducible refine Kd.C_alloc ?_ _) | (with_reducible refine Kd.C_drewN ?_ _) | (with_reducible refine Kd.C_drew ?_)))
  (case side2 => exact (Kd.R_reads' HOz7.out).2.1)
  (case side3 => repeat (first | exact (Kd.S_reads' HOz8.out).2.2 | (with_reducible refine Kd.C_alloc ?_ _) | (with_reducible refine Kd.C_drewN ?_ _) | (with_reducible refine Kd.C_drew ?_)))
  (case side4 => exact (Kd.S_reads' HOz8.out).2.1)
  (case side5 => repeat (first | exact (Kd.S_reads' HOz9.out).2.2 | (with_reducible refine Kd.C_alloc ?_ _) | (with_reducible refine Kd.C_drewN ?_ _) | (with_reducible refine Kd.C_drew ?_)))
  (case side6 => exact (Kd.S_reads' HOz9.out).2.1)
  (case side7 => repeat (first | exact (Kd.S_reads' HOz10.out).2.2 | (with_reducible refine Kd.C_alloc ?_ _) | (with_reducible refine Kd.C_drewN ?_ _) | (with_reducible refine Kd.C_drew ?_)))
  (case side8 => exact (Kd.S_reads' HOz10.out).2.1)
  (case side9 => repeat (first | exact (Kd.R_reads' HOz11.out).2.2 | (with_reducible refine Kd.C_alloc ?_ _) | (with_reducible refine Kd.C_drewN ?_ _) | (with_reducible refine Kd.C_drew ?_)))
  (case side10 => exact (Kd.R_reads' HOz11.out).2.1)
  (case side11 => repeat (first | exact (Kd.R_reads' HOz12.out).2.2 | (with_reducible refine Kd.C_alloc ?_ _) | (with_reducible refine Kd.C_drewN ?_ _) | (with_reducible refine Kd.C_drew ?_)))
  (case side12 => exact (Kd.R_reads' HOz12.out).2.1)
  (case side13 => repeat (first | exact (Kd.R_reads' HOz13.out).2.2 | (with_reducible refine Kd.C_alloc ?_ _) | (with_reducible refine Kd.C_drewN ?_ _) | (with_reducible refine Kd.C_drew ?_)))
  (case side14 => exact (Kd.R_reads' HOz13.out).2.1)
  (case side15 => repeat (first | exact (Kd.S_reads' HOz14.out).2.2 | (with_reducible refine Kd.C_alloc ?_ _) | (with_reducible refine Kd.C_drewN ?_ _) | (with_reducible refine Kd.C_drew ?_)))
  (case side16 => exact (Kd.S_reads' HOz14.out).2.1)
  (case side17 => repeat (first | exact (Kd.S_reads' HOz15.out).2.2 | (with_reducible refine Kd.C_alloc ?_ _) | (with_reducible refine Kd.C_drewN ?_ _) | (with_reducible refine Kd.C_drew ?_)))
  (case side18 => exact (Kd.S_reads' HOz15.out).2.1)
  (case side19 => repeat (first | exact (Kd.S_reads' HOz16.out).2.2 | (with_reducible refine Kd.C_alloc ?_ _) | (with_reducible refine Kd.C_drewN ?_ _) | (with_reducible refine Kd.C_drew ?_)))
  (case side20 => exact (Kd.S_reads' HOz16.out).2.1)
  (case side21 => repeat (first | exact (Kd.R_reads' HOz17.out).2.2 | (with_reducible refine Kd.C_alloc ?_ _) | (with_reducible refine Kd.C_drewN ?_ _) | (with_reducible refine Kd.C_drew ?_)))
  (case side22 => exact (Kd.R_reads' HOz17.out).2.1)
  (case side23 => repeat (first | exact (Kd.R_reads' HOz18.out).2.2 | (with_reducible refine Kd.C_alloc ?_ _) | (with_reducible refine Kd.C_drewN ?_ _) | (with_reducible refine Kd.C_drew ?_)))
  (case side24 => exact (Kd.R_reads' HOz18.out).2.1)
  rintro e wz10 ⟨rfl, hb⟩
  refine ⟨_, rfl, ?_⟩
  replace HOz1 := aQ HOz1 hb
  replace HOz2 := aT HOz2 hb
  replace HOz3 := aT HOz3 hb
  replace HOz4 := aT HOz4 hb
  replace HOz5 := aQ HOz5 hb
  replace HOz6 := aQ HOz6 hb
  replace HOz7 := aQ HOz7 hb
  replace HOz8 := aT HOz8 hb
  replace HOz9 := aT HOz9 hb
  replace HOz10 := aT HOz10 hb
  replace HOz11 := aQ HOz11 hb
  replace HOz12 := aQ HOz12 hb
  replace HOz13 := aQ HOz13 hb
  replace HOz14 := aT HOz14 hb
  replace HOz15 := aT HOz15 hb
  replace HOz16 := aT HOz16 hb
  replace HOz17 := aQ HOz17 hb
  replace HOz18 := aQ HOz18 hb
  replace BKz1 := aB BKz1 hb
  replace BKz2 := aB BKz2 hb
  replace HB := aS HB hb
  (try clear hb)
  (try clear hb2)
  (try clear hk)
  (try clear hi)
  refine hK.out _ _ ⟨cK BKz2.out 0, cK BKz2.out 1, cK BKz2.out 2, cK BKz2.out 3, cK BKz2.out 4, cK BKz2.out 5, cK BKz2.out 6, cK BKz2.out 7, cK BKz1.out 0, cK BKz1.out 1, cK BKz1.out 2, cK BKz1.out 3, cK BKz1.out 4, cK BKz1.out 5, cK BKz1.out 6, cK BKz1.out 7⟩ (fun hHeld => ?_)
  clear hK K
  refine nZ 25 ?_
  refine pK 4 26 (bm 5 31) ?_
  refine done_ (by kernel_rfl) ?_
  try go_wp2
  go_ret
  exact ⟨rE, (hX HB.out)⟩
end Go.Proofs.YtmljebgideecjaaGreat.P2
namespace Go.Proofs.YtmljebgideecjaaGreatZ
open Go.RowKit Go.Proofs.YtmljebgideecjaaGreatW.PrintWords Go.Proofs.YtmljebgideecjaaGreatW.PrintLast
def Opens {α : Type} (P : Program) (t : TypeId) (d : Kd α) (wf : α → Prop) : Prop :=
  ∀ (H : Type) (enc : TypeId × Value → H) (w : World) (fuel : Nat) (cs : List Value) (x : DataW H × List MemPlace),
    DataW.trod enc P w 0 (fun _ => true) true fuel t cs = some x → ∃ a, d.K w a cs ∧ wf a
theorem Opens.int {P : Program} {t : TypeId} {k : IntKind} (hu : P.underlying t = some (.int k)) : Opens P t (Kd.int k) (fun n => (Lit.int k n).wf = true) := by
  intro H enc w fuel cs x h
  obtain ⟨n, rfl, _, hw⟩ := DataW.trod_int hu h
  exact ⟨n, rfl, hw⟩
theorem Opens.bool {P : Program} {t : TypeId} (hu : P.underlying t = some .bool) : Opens P t Kd.bool (fun _ => True) := by
  intro H enc w fuel cs x h
  obtain ⟨n, rfl, _⟩ := DataW.trod_bool hu h
  exact ⟨n, rfl, trivial⟩
theorem exists_list {α : Type} (Q : Nat → α → Prop) : ∀ n, (∀ i, i < n → ∃ y, Q i y) → ∃ xs : List α, xs.length = n ∧ ∀ j p, xs[j]? = some p → Q j p
  | 0, _ => ⟨[], rfl, fun j p h => by simp at h⟩
  | n + 1, h => by
    obtain ⟨xs, hl, hx⟩ := exists_list Q n (fun i hi => h i (by omega))
    obtain ⟨y, hy⟩ := h n (by omega)
    refine ⟨xs ++ [y], by simp [hl], fun j p hj => ?_⟩
    by_cases hjn : j < n
    · rw [List.getElem?_append_left (by omega)] at hj
      exact hx j p hj
    · have hlt := (List.getElem?_eq_some_iff.1 hj).1
      rw [List.length_append, List.length_singleton, hl] at hlt
      obtain rfl : j = n := by omega
      rw [List.getElem?_append_right (by omega), hl, Nat.sub_self] at hj
      obtain rfl : y = p := by simpa using hj
      exact hy
theorem Opens.slice {α : Type} {P : Program} {t e : TypeId} {d : Kd α} {wf : α → Prop} (e' : Nat) (hu : P.underlying t = some (.slice e)) (hc : P.cellsOf e = d.sz) (he : Opens P e d wf) :
    Opens P t (Kd.slice e' d) (fun xs => xs.length ≤ 9223372036854775807 ∧ ∀ a ∈ xs, wf a) := by
  intro H enc w fuel cs x h
  rcases DataW.trod_slice hu h with ⟨rfl, _⟩ | ⟨a, len, cap, elems, rest, n, _, rfl, _, hb, hl, hm, hlen, hel, _, _⟩
  · exact ⟨[], ⟨none, 0, rfl, Nat.le_refl _, Kd.C_nil _ _⟩, by simp⟩
  · have each : ∀ i, i < len → ∃ y, wf y ∧ ∃ c, c.length = d.sz ∧ d.K w y c ∧ ∀ j u, c[j]? = some u → w.cell? (a.add (i * d.sz + j)) = some u := by
      intro i hi
      have h1 := hel i hi
      rw [List.getElem?_eq_getElem (by omega), hc, Option.bind_eq_some_iff] at h1
      obtain ⟨c, hcs, hy⟩ := h1
      obtain ⟨y, hK, hw⟩ := he _ _ _ _ _ _ hy
      refine ⟨y, hw, c, d.K_len hK, hK, fun j u hj => ?_⟩
      have h2 := World.cells?_some hcs
      rw [← Addr.add_add]
      have hjl := (List.getElem?_eq_some_iff.1 hj).1
      rw [← hj]
      exact (h2.2.2 j (by rw [← h2.2.1]; exact hjl))
    obtain ⟨xs, hxl, hxs⟩ := exists_list _ len each
    simp only [maxLen] at hm
    refine ⟨xs, ⟨some a, cap, by rw [hxl], by omega, rfl, by omega, fun _ => ⟨a, rfl, fun j p hj => ?_⟩⟩, by omega, fun y hy => ?_⟩
    · obtain ⟨_, c, hcl, hK, hcell⟩ := hxs j p hj
      exact ⟨c, hcl, hK, hcell⟩
    · obtain ⟨j, hj⟩ := List.getElem?_of_mem hy
      exact (hxs j y hj).1
def OpensF {α : Type} (P : Program) (fs : Array Field) (o : Nat) (d : Kd α) (wf : α → Prop) : Prop :=
  ∀ (H : Type) (enc : TypeId × Value → H) (w : World) (fuel : Nat) (cs : List Value) (xs : List (DataW H × List MemPlace)), cs.length = o + d.sz → xs.length = fs.size →
    (∀ (j : Nat) (f : Field), fs[j]? = some f → DataW.trod enc P w 0 (fun _ => true) true fuel f.type ((cs.drop f.offset).take (P.cellsOf f.type)) = xs[j]?) → ∃ a, d.K w a (cs.drop o) ∧ wf a
theorem OpensF.last {α : Type} {P : Program} {fs : Array Field} {o : Nat} {d : Kd α} {wf : α → Prop} (i : Nat) (f : Field) (hf : fs[i]? = some f) (ho : f.offset = o) (hc : P.cellsOf f.type = d.sz) (h : Opens P f.type d wf) : OpensF P fs o d wf := by
  intro H enc w fuel cs xs hl hx hall
  have h1 := hall i f hf
  have hi : i < xs.length := by rw [hx]; exact (Array.getElem?_eq_some_iff.1 hf).1
  rw [List.getElem?_eq_getElem hi, ho, hc, List.take_of_length_le (by rw [List.length_drop]; omega)] at h1
  exact h _ _ _ _ _ _ h1
theorem OpensF.cons {α β : Type} {P : Program} {fs : Array Field} {o : Nat} {d : Kd α} {d' : Kd β} {wf : α → Prop} {wf' : β → Prop} (i : Nat) (f : Field) (hf : fs[i]? = some f) (ho : f.offset = o) (hc : P.cellsOf f.type = d.sz) (h : Opens P f.type d wf)
    (h' : OpensF P fs (o + d.sz) d' wf') : OpensF P fs o (Kd.pair d d') (fun x => wf x.1 ∧ wf' x.2) := by
  intro H enc w fuel cs xs hl hx hall
  have h1 := hall i f hf
  have hi : i < xs.length := by rw [hx]; exact (Array.getElem?_eq_some_iff.1 hf).1
  rw [List.getElem?_eq_getElem hi, ho, hc] at h1
  obtain ⟨a, hK, hw⟩ := h _ _ _ _ _ _ h1
  have hl' : cs.length = o + (d.sz + d'.sz) := hl
  obtain ⟨b, hK', hw'⟩ := h' H enc w fuel cs xs (by omega) hx hall
  refine ⟨(a, b), ⟨_, _, ?_, hK, hK'⟩, hw, hw'⟩
  rw [← List.drop_drop, List.take_append_drop]
theorem Opens.struct {α β : Type} {P : Program} {t : TypeId} {fs : Array Field} {d : Kd α} {wf : α → Prop} (f : β → α) (g : α → β) (hfg : ∀ a, f (g a) = a) (hu : P.underlying t = some (.struct fs)) (hc : P.cellsOf t = d.sz) (h : OpensF P fs 0 d wf) :
    Opens P t (Kd.iso d f) (fun b => wf (f b)) := by
  intro H enc w fuel cs x hx
  obtain ⟨xs, n, _, _, hl, hxl, hall⟩ := DataW.trod_struct hu hx
  obtain ⟨a, hK, hw⟩ := h H enc w n cs xs (by omega) hxl hall
  refine ⟨g a, ?_, ?_⟩
  · show d.K w (f (g a)) cs
    rw [hfg]; exact hK
  · show wf (f (g a))
    rw [hfg]; exact hw
theorem Opens.param {α : Type} {P : Program} {t : TypeId} {d : Kd α} {wf : α → Prop} (h : Opens P t d wf) {H : Type} {enc : TypeId × Value → H} {w : World} {v : Value} {D : DataW H} {ps : List MemPlace} (hv : DataW.Trod enc P w 0 (fun _ => true) true t v D ps) :
    ∃ a, d.K w a v.cells.toList ∧ wf a := by
  obtain ⟨fuel, hf⟩ := hv
  exact h _ _ _ _ _ _ hf
theorem okWide_agg {P : Program} {W : World} {r : Reach} {base : Nat} {t : TypeId} {v : Value} {fs : Array Field} (hu : P.underlying t = some (.struct fs)) (h : Value.okWide P W r base t v) : ∃ cs : Array Value, v = .agg cs := by
  unfold Value.okWide at h
  rw [hu] at h
  obtain ⟨cs, rfl, _⟩ := h
  exact ⟨cs, rfl⟩
end Go.Proofs.YtmljebgideecjaaGreatZ
namespace Go.Proofs.YtmljebgideecjaaGreat.P2
open Go.RowKit Go.Proofs.YtmljebgideecjaaGreatW.PrintWords Go.Proofs.YtmljebgideecjaaGreatW.PrintLast Go.Proofs.YtmljebgideecjaaGreatZ
def wf176 (x : S176) : Prop := (Lit.int .i64 x.f0).wf = true ∧ (Lit.int .i64 x.f1).wf = true ∧ (Lit.int .i64 x.f2).wf = true
theorem op176 : Opens Tryz.prog 176 k176 wf176 := Opens.struct (fun x : S176 => (x.f0, x.f1, x.f2)) (fun a => ⟨a.1, a.2.1, a.2.2⟩) (fun _ => rfl) Tryz.underlying176 (by kernel_rfl) (OpensF.cons 0 _ rfl rfl (by kernel_rfl) (Opens.int Tryz.underlying3) (OpensF.cons 1 _ rfl rfl (by kernel_rfl) (Opens.int Tryz.underlying3) (OpensF.last 2 _ rfl rfl (by kernel_rfl) (Opens.int Tryz.underlying3))))
def wf224 (x : S224) : Prop := (Lit.int .i64 x.f0).wf = true ∧ (Lit.int .i64 x.f1).wf = true ∧ (Lit.int .i64 x.f2).wf = true
theorem op224 : Opens Tryz.prog 224 k224 wf224 := Opens.struct (fun x : S224 => (x.f0, x.f1, x.f2)) (fun a => ⟨a.1, a.2.1, a.2.2⟩) (fun _ => rfl) Tryz.underlying224 (by kernel_rfl) (OpensF.cons 0 _ rfl rfl (by kernel_rfl) (Opens.int Tryz.underlying3) (OpensF.cons 1 _ rfl rfl (by kernel_rfl) (Opens.int Tryz.underlying3) (OpensF.last 2 _ rfl rfl (by kernel_rfl) (Opens.int Tryz.underlying3))))
def wf117 (x : S117) : Prop := (Lit.int .i64 x.f0).wf = true ∧ (x.f1.length ≤ 9223372036854775807 ∧ ∀ y ∈ x.f1, (Lit.int .i64 y).wf = true)
theorem op117 : Opens Tryz.prog 117 k117 wf117 := Opens.struct (fun x : S117 => (x.f0, x.f1)) (fun a => ⟨a.1, a.2⟩) (fun _ => rfl) Tryz.underlying117 (by kernel_rfl) (OpensF.cons 0 _ rfl rfl (by kernel_rfl) (Opens.int Tryz.underlying3) (OpensF.last 1 _ rfl rfl (by kernel_rfl) (Opens.slice 3 Tryz.underlying28 (by kernel_rfl) (Opens.int Tryz.underlying3))))
def wf155 (x : S155) : Prop := (Lit.int .i64 x.f0).wf = true ∧ (Lit.int .i64 x.f1).wf = true ∧ (x.f2.length ≤ 9223372036854775807 ∧ ∀ y ∈ x.f2, wf224 y) ∧ wf117 x.f3
theorem op155 : Opens Tryz.prog 155 k155 wf155 := Opens.struct (fun x : S155 => (x.f0, x.f1, x.f2, x.f3)) (fun a => ⟨a.1, a.2.1, a.2.2.1, a.2.2.2⟩) (fun _ => rfl) Tryz.underlying155 (by kernel_rfl) (OpensF.cons 0 _ rfl rfl (by kernel_rfl) (Opens.int Tryz.underlying3) (OpensF.cons 1 _ rfl rfl (by kernel_rfl) (Opens.int Tryz.underlying3) (OpensF.cons 2 _ rfl rfl (by kernel_rfl) (Opens.slice 224 Tryz.underlying153 (by kernel_rfl) (op224)) (OpensF.last 3 _ rfl rfl (by kernel_rfl) (op117)))))
def wf25 (x : S25) : Prop := (x.f0.length ≤ 9223372036854775807 ∧ ∀ y ∈ x.f0, wf176 y) ∧ (x.f1.length ≤ 9223372036854775807 ∧ ∀ y ∈ x.f1, wf155 y)
theorem op25 : Opens Tryz.prog 25 k25 wf25 := Opens.struct (fun x : S25 => (x.f0, x.f1)) (fun a => ⟨a.1, a.2⟩) (fun _ => rfl) Tryz.underlying25 (by kernel_rfl) (OpensF.cons 0 _ rfl rfl (by kernel_rfl) (Opens.slice 176 Tryz.underlying22 (by kernel_rfl) (op176)) (OpensF.last 1 _ rfl rfl (by kernel_rfl) (Opens.slice 155 Tryz.underlying23 (by kernel_rfl) (op155))))
def wf116 (x : S116) : Prop := (Lit.int .i64 x.f0).wf = true ∧ (Lit.int .i64 x.f1).wf = true ∧ (Lit.int .i64 x.f2).wf = true
theorem op116 : Opens Tryz.prog 116 k116 wf116 := Opens.struct (fun x : S116 => (x.f0, x.f1, x.f2)) (fun a => ⟨a.1, a.2.1, a.2.2⟩) (fun _ => rfl) Tryz.underlying116 (by kernel_rfl) (OpensF.cons 0 _ rfl rfl (by kernel_rfl) (Opens.int Tryz.underlying3) (OpensF.cons 1 _ rfl rfl (by kernel_rfl) (Opens.int Tryz.underlying3) (OpensF.last 2 _ rfl rfl (by kernel_rfl) (Opens.int Tryz.underlying3))))
def wf204 (x : S204) : Prop := (Lit.int .i64 x.f0).wf = true ∧ (Lit.int .i64 x.f1).wf = true
theorem op204 : Opens Tryz.prog 204 k204 wf204 := Opens.struct (fun x : S204 => (x.f0, x.f1)) (fun a => ⟨a.1, a.2⟩) (fun _ => rfl) Tryz.underlying204 (by kernel_rfl) (OpensF.cons 0 _ rfl rfl (by kernel_rfl) (Opens.int Tryz.underlying3) (OpensF.last 1 _ rfl rfl (by kernel_rfl) (Opens.int Tryz.underlying3)))
def wf206 (x : S206) : Prop := (Lit.int .i64 x.f0).wf = true ∧ (Lit.int .i64 x.f1).wf = true ∧ (Lit.int .i64 x.f2).wf = true ∧ (Lit.int .i64 x.f3).wf = true
theorem op206 : Opens Tryz.prog 206 k206 wf206 := Opens.struct (fun x : S206 => (x.f0, x.f1, x.f2, x.f3)) (fun a => ⟨a.1, a.2.1, a.2.2.1, a.2.2.2⟩) (fun _ => rfl) Tryz.underlying206 (by kernel_rfl) (OpensF.cons 0 _ rfl rfl (by kernel_rfl) (Opens.int Tryz.underlying3) (OpensF.cons 1 _ rfl rfl (by kernel_rfl) (Opens.int Tryz.underlying3) (OpensF.cons 2 _ rfl rfl (by kernel_rfl) (Opens.int Tryz.underlying3) (OpensF.last 3 _ rfl rfl (by kernel_rfl) (Opens.int Tryz.underlying3)))))
def wf114 (x : S114) : Prop := (x.f0.length ≤ 9223372036854775807 ∧ ∀ y ∈ x.f0, wf116 y) ∧ (Lit.int .i64 x.f1).wf = true ∧ True ∧ (x.f3.length ≤ 9223372036854775807 ∧ ∀ y ∈ x.f3, wf204 y) ∧ (x.f4.length ≤ 9223372036854775807 ∧ ∀ y ∈ x.f4, wf206 y)
theorem op114 : Opens Tryz.prog 114 k114 wf114 := Opens.struct (fun x : S114 => (x.f0, x.f1, x.f2, x.f3, x.f4)) (fun a => ⟨a.1, a.2.1, a.2.2.1, a.2.2.2.1, a.2.2.2.2⟩) (fun _ => rfl) Tryz.underlying114 (by kernel_rfl) (OpensF.cons 0 _ rfl rfl (by kernel_rfl) (Opens.slice 116 Tryz.underlying89 (by kernel_rfl) (op116)) (OpensF.cons 1 _ rfl rfl (by kernel_rfl) (Opens.int Tryz.underlying3) (OpensF.cons 2 _ rfl rfl (by kernel_rfl) (Opens.bool Tryz.underlying4) (OpensF.cons 3 _ rfl rfl (by kernel_rfl) (Opens.slice 204 Tryz.underlying111 (by kernel_rfl) (op204)) (OpensF.last 4 _ rfl rfl (by kernel_rfl) (Opens.slice 206 Tryz.underlying112 (by kernel_rfl) (op206)))))))
def wf119 (x : S119) : Prop := (Lit.int .i64 x.f0).wf = true ∧ wf116 x.f1 ∧ (Lit.int .i64 x.f2).wf = true ∧ (Lit.int .i64 x.f3).wf = true ∧ (Lit.int .i64 x.f4).wf = true ∧ wf117 x.f5
theorem op119 : Opens Tryz.prog 119 k119 wf119 := Opens.struct (fun x : S119 => (x.f0, x.f1, x.f2, x.f3, x.f4, x.f5)) (fun a => ⟨a.1, a.2.1, a.2.2.1, a.2.2.2.1, a.2.2.2.2.1, a.2.2.2.2.2⟩) (fun _ => rfl) Tryz.underlying119 (by kernel_rfl) (OpensF.cons 0 _ rfl rfl (by kernel_rfl) (Opens.int Tryz.underlying3) (OpensF.cons 1 _ rfl rfl (by kernel_rfl) (op116) (OpensF.cons 2 _ rfl rfl (by kernel_rfl) (Opens.int Tryz.underlying3) (OpensF.cons 3 _ rfl rfl (by kernel_rfl) (Opens.int Tryz.underlying3) (OpensF.cons 4 _ rfl rfl (by kernel_rfl) (Opens.int Tryz.underlying3) (OpensF.last 5 _ rfl rfl (by kernel_rfl) (op117)))))))
def wf30 (x : S30) : Prop := (x.f0.length ≤ 9223372036854775807 ∧ ∀ y ∈ x.f0, (Lit.int .i64 y).wf = true) ∧ (Lit.int .i64 x.f1).wf = true
theorem op30 : Opens Tryz.prog 30 k30 wf30 := Opens.struct (fun x : S30 => (x.f0, x.f1)) (fun a => ⟨a.1, a.2⟩) (fun _ => rfl) Tryz.underlying30 (by kernel_rfl) (OpensF.cons 0 _ rfl rfl (by kernel_rfl) (Opens.slice 3 Tryz.underlying28 (by kernel_rfl) (Opens.int Tryz.underlying3)) (OpensF.last 1 _ rfl rfl (by kernel_rfl) (Opens.int Tryz.underlying3)))
def wf32 (x : S32) : Prop := wf25 x.f0 ∧ (x.f1.length ≤ 9223372036854775807 ∧ ∀ y ∈ x.f1, wf114 y) ∧ (Lit.int .i64 x.f2).wf = true ∧ (x.f3.length ≤ 9223372036854775807 ∧ ∀ y ∈ x.f3, wf119 y) ∧ (x.f4.length ≤ 9223372036854775807 ∧ ∀ y ∈ x.f4, (Lit.int .i64 y).wf = true) ∧ wf30 x.f5
theorem op32 : Opens Tryz.prog 32 k32 wf32 := Opens.struct (fun x : S32 => (x.f0, x.f1, x.f2, x.f3, x.f4, x.f5)) (fun a => ⟨a.1, a.2.1, a.2.2.1, a.2.2.2.1, a.2.2.2.2.1, a.2.2.2.2.2⟩) (fun _ => rfl) Tryz.underlying32 (by kernel_rfl) (OpensF.cons 0 _ rfl rfl (by kernel_rfl) (op25) (OpensF.cons 1 _ rfl rfl (by kernel_rfl) (Opens.slice 114 Tryz.underlying26 (by kernel_rfl) (op114)) (OpensF.cons 2 _ rfl rfl (by kernel_rfl) (Opens.int Tryz.underlying3) (OpensF.cons 3 _ rfl rfl (by kernel_rfl) (Opens.slice 119 Tryz.underlying27 (by kernel_rfl) (op119)) (OpensF.cons 4 _ rfl rfl (by kernel_rfl) (Opens.slice 3 Tryz.underlying28 (by kernel_rfl) (Opens.int Tryz.underlying3)) (OpensF.last 5 _ rfl rfl (by kernel_rfl) (op30)))))))
def PureFnExactJudgeTimes : Prop := ∀ (x0 : S32), wf32 x0 → ∃ k, laws_FnExactJudgeTimes.f k x0.f0.f0 x0.f0.f1 x0.f1 x0.f2 x0.f3 x0.f4 x0.f5.f0 x0.f5.f1 = some true
end Go.Proofs.YtmljebgideecjaaGreat.P2
namespace Go.Proofs.YtmljebgideecjaaGreat.P2
open Go.Proofs.YtmljebgideecjaaGreatZ Go.RowKit Go.Proofs.YtmljebgideecjaaGreatW.PrintWords Go.Proofs.YtmljebgideecjaaGreatW.PrintLast Go.Proofs.YtmljebgideecjaaGreatW.PrintMore
attribute [local go_sem] max2_int min2_int max_two min_two max_three min_three max_four min_four   -- for this text's walks alone








































end Go.Proofs.YtmljebgideecjaaGreat.P2
namespace Go.Proofs.YtmljebgideecjaaGreatZ
open Go.RowKit Go.Proofs.YtmljebgideecjaaGreatW.PrintWords Go.Proofs.YtmljebgideecjaaGreatW.PrintLast
def CopyRuns (P : Program) (d s : Value) (elem : TypeId) (w : World) (K : Ending → World → Prop) : Prop :=
  ∀ (ops : Array Oper) (rest : List Oper) (o : Oper) (a : Act) (Q : Exit → Act → World → Prop) (x y : Operand) (dT sT : TypeId), o.guard = none → o.op = .call { callee := .builtin .copy, args := #[x, y], argTypes := #[dT, sT] } →
    P.underlying dT = some (.slice elem) → (P.info? elem).map (·.size) = some 1 → a.eval x = d → a.eval y = s → (∀ v w', K (.returned v) w' → wpList P ops Q rest (a.put o.dst v) w') → wpList P ops Q (o :: rest) a w
theorem CopyRuns.mono {P : Program} {d s : Value} {elem : TypeId} {w : World} {K K' : Ending → World → Prop} (h : CopyRuns P d s elem w K) (hm : ∀ e w', K e w' → K' e w') : CopyRuns P d s elem w K' :=
  fun ops rest o a Q x y dT sT h1 h2 h3 h4 h5 h6 h7 => h ops rest o a Q x y dT sT h1 h2 h3 h4 h5 h6 (fun v w' hk => h7 v w' (hm _ _ hk))
def copy_int.f (l0 l1 : List Int) : Option (Int × List Int) := some (((Nat.min l1.length l0.length : Nat) : Int), l1.take (Nat.min l1.length l0.length) ++ l0.drop (Nat.min l1.length l0.length))
theorem copy_int.calls {P : Program} (P0_ : Nat → Prop) (u9000_ : Value) (l0 : List Int) (A1 : Option Addr) (c1 : Nat) (l1 : List Int) (r1 : Int) (r2 : List Int) (w0 w : World) (hB : Below w0.heap.size w0 w) (ho0 : Kd.R (Kd.int .i64) 3 w w0.heap.size P0_ u9000_ l0)
    (hr1 : ∀ W_, Kept w W_ (fun k_ => P0_ k_) → Kd.C (Kd.int .i64) W_ A1 l1.length l1) (_hc1 : l1.length ≤ c1) (h : copy_int.f l0 l1 = some (r1, r2)) :
    CopyRuns P u9000_ (.slice A1 l1.length c1) 3 w fun e w' => e = .returned (.int .i64 r1) ∧ Kd.R (Kd.int .i64) 3 w' w0.heap.size (fun k_ => (P0_ k_ ∨ w.heap.size ≤ k_)) u9000_ r2 ∧ Below w0.heap.size w0 w' ∧ Kept w w' (fun k_ => P0_ k_) := by
  have h' : (((Nat.min l1.length l0.length : Nat) : Int), l1.take (Nat.min l1.length l0.length) ++ l0.drop (Nat.min l1.length l0.length)) = (r1, r2) := Option.some.inj h
  have hr1e : ((Nat.min l1.length l0.length : Nat) : Int) = r1 := congrArg Prod.fst h'
  have hr2e : l1.take (Nat.min l1.length l0.length) ++ l0.drop (Nat.min l1.length l0.length) = r2 := congrArg Prod.snd h'
  intro ops rest o a Q x y dT sT hg hop hu hsz hx hy hK
  have hC := hr1 w (Kept.refl _ _)
  have ho := Kd.own_of_R ho0
  by_cases hm : Nat.min l1.length l0.length = 0
  · have e2 : r2 = l0 := by rw [← hr2e, hm]; simp
    have e1 : r1 = 0 := by rw [← hr1e, hm]; rfl
    obtain ⟨dp, dc, hv⟩ : ∃ dp dc, u9000_ = .slice dp l0.length dc := by
      rcases ho.2 with ⟨hv, hn⟩ | ⟨g, cap, cur, hv, _⟩
      · exact ⟨none, 0, by rw [hv, hn]⟩
      · exact ⟨_, _, hv⟩
    refine wpList_copy_nothing hg x y dT sT hop 3 hu hsz dp A1 l0.length dc l1.length c1 (by rw [hx, hv]) hy hm ?_
    refine hK (goInt 0) w ⟨by rw [e1]; rfl, ?_, hB, Kept.refl _ _⟩
    rw [e2]
    exact Kd.R_mono ho0 (fun k_ hk => .inl hk)
  · have hm1 : 0 < l1.length := by
      apply Classical.byContradiction
      intro hn
      exact hm (by rw [show l1.length = 0 by omega]; simp)
    rcases ho.2 with ⟨hv, hn⟩ | ⟨g, cap, cur, hv, hbase, hgc, hnc, hcap, hcs, htake⟩
    · exact absurd (by rw [hn]; simp) hm
    · obtain ⟨ad, rfl, hc⟩ := hC.2.2 hm1
      have hcell : ∀ (j : Nat) (z : Int), l1[j]? = some z → w.cell? (ad.add j) = some (.int .i64 z) := by
        intro j z hj
        obtain ⟨c, _, hKc, hu_⟩ := hc j z hj
        have hK' : c = [.int .i64 z] := hKc
        have := hu_ 0 (.int .i64 z) (by rw [hK']; rfl)
        simpa [Kd.int, Kd.scalar] using this
      have hml0 : Nat.min l1.length l0.length ≤ l0.length := Nat.min_le_right _ _
      have hml1 : Nat.min l1.length l0.length ≤ l1.length := Nat.min_le_left _ _
      have hcl : ((l1.take (Nat.min l1.length l0.length)).map (Value.int .i64)).length = Nat.min l1.length l0.length := by
        rw [List.length_map, List.length_take]; exact Nat.min_eq_left hml1
      refine wpList_copy_own hg x y dT sT hop 3 hu hsz g 0 l0.length cap ad l1.length c1 (by rw [hx, hv]) hy cur 3 hgc ((l1.take (Nat.min l1.length l0.length)).map (Value.int .i64)) hcl ?_ ?_ ?_ ?_
      · intro j v hj
        rw [List.getElem?_map] at hj
        obtain ⟨z, hz, rfl⟩ := Option.map_eq_some_iff.mp hj
        rw [List.getElem?_take] at hz
        split at hz
        · exact hcell j z hz
        · cases hz
      · rw [hcl]; omega
      · intro v hv
        obtain ⟨z, _, rfl⟩ := List.mem_map.mp hv
        rfl
      · rw [hcl]
        have hr2l : r2.length = l0.length := by
          rw [← hr2e, List.length_append, List.length_take, List.length_drop]
          have := Nat.min_eq_left hml1
          omega
        refine hK (goInt _) _ ⟨by rw [← hr1e]; rfl, ?_, below_setRow hB hbase _, ?_, ?_⟩
        · refine Kd.R_of_own (enc := Value.int .i64) (h1 := fun _ => rfl) ⟨by rw [Nat.mul_one, encs_length], Or.inr ⟨g, cap, _, ?_, hbase, setRow_heap w g cur _ 3 (0, 0) hgc, ?_, hcap, ?_, ?_⟩⟩ ?_
          · rw [hr2l]; exact hv
          · rw [hr2l]; exact hnc
          · simp only [List.size_toArray, List.length_append, List.length_take, List.length_drop, hcl, Array.length_toList]
            omega
          · have htake' : cur.toList.take l0.length = l0.map (Value.int .i64) := by rw [Nat.mul_one] at htake; exact htake
            have e : encs (Value.int .i64) r2 = r2.map (Value.int .i64) := rfl
            rw [hr2l, Nat.mul_one, e, ← hr2e, List.map_append, List.map_drop, ← htake']
            rw [List.take_zero, List.nil_append, Nat.zero_add, List.take_append, hcl, List.drop_take]
            congr 1
            rw [List.take_of_length_le (by rw [hcl]; exact hml0)]
          · intro k hk
            exact Or.inl (ho0.1 k hk)
        · rw [setRow_size]; exact Nat.le_refl _
        · intro i hi hn
          refine setRow_other w g i _ (fun e => hn ?_)
          rw [e]
          exact ho0.1 g (by rw [hv]; rfl)
end Go.Proofs.YtmljebgideecjaaGreatZ
namespace Go.Proofs.YtmljebgideecjaaGreat.P2
open Go.Proofs.YtmljebgideecjaaGreatZ Go.RowKit Go.Proofs.YtmljebgideecjaaGreatW.PrintWords Go.Proofs.YtmljebgideecjaaGreatW.PrintLast Go.Proofs.YtmljebgideecjaaGreatW.PrintMore
attribute [local go_sem] max2_int min2_int max_two min_two max_three min_three max_four min_four   -- for this text's walks alone



end Go.Proofs.YtmljebgideecjaaGreat.P2
namespace Go.Proofs.YtmljebgideecjaaGreatW.PrintWords
section
variable {α : Type}
theorem Ev.shift {g : Nat → Option α} {r : α} (h : Ev (fun k => g (k + 1)) r) : Ev g r := Ev.step (fun _ => rfl) h
theorem Ev.val {a r : α} (h : a = r) : Ev (fun _ => some a) r := by subst h; exact Ev.now _
theorem Ev.of_eq {o : Option α} {r : α} (h : o = some r) : Ev (fun _ => o) r := by subst h; exact Ev.now _
theorem Ev.to {g : Nat → Option α} {a r : α} (h : Ev g a) (e : a = r) : Ev g r := e ▸ h
theorem Ev.pos {p : Prop} [Decidable p] {g f : Nat → Option α} {r : α} (h : p) (hg : Ev g r) : Ev (fun k => if p then g k else f k) r := by
  simp only [if_pos h]; exact hg
theorem Ev.neg {p : Prop} [Decidable p] {g f : Nat → Option α} {r : α} (h : ¬ p) (hf : Ev f r) : Ev (fun k => if p then g k else f k) r := by
  simp only [if_neg h]; exact hf
end
end Go.Proofs.YtmljebgideecjaaGreatW.PrintWords
namespace Go.Proofs.YtmljebgideecjaaGreatZ
open Go.RowKit Go.Proofs.YtmljebgideecjaaGreatW.PrintWords
theorem back {n : Nat} {Q : Nat → Prop} (hn : Q n) (hs : ∀ i, i < n → Q (i + 1) → Q i) : ∀ i, i ≤ n → Q i := by
  intro i hi
  obtain ⟨d, rfl⟩ : ∃ d, n = i + d := ⟨n - i, by omega⟩
  clear hi
  induction d generalizing i with
  | zero => exact hn
  | succ d ih =>
    refine hs i (by omega) (ih (i + 1) ?_ ?_)
    · rw [show i + 1 + d = i + (d + 1) by omega]; exact hn
    · intro j hj; exact hs j (by omega)
theorem w64 {n : Int} (h1 : -9223372036854775808 ≤ n) (h2 : n < 9223372036854775808) : wrap64 n = n := by unfold wrap64; omega
theorem i64_wf {n : Int} (h : (Lit.int .i64 n).wf = true) : -9223372036854775808 ≤ n ∧ n < 9223372036854775808 := by
  have := Go.bounds_i64 h; omega
theorem succ64 {i n : Nat} (h : i < n) (hn : n ≤ 9223372036854775807) : wrap64 ((i : Int) + 1) = ((i + 1 : Nat) : Int) := by
  rw [w64 (by omega) (by omega)]; simp
def lf (w t : Int) : Int := if w ≤ t then t - w else -1
theorem lf_pos {w t : Int} (h : w ≤ t) : lf w t = t - w := if_pos h
theorem lf_neg {w t : Int} (h : ¬ w ≤ t) : lf w t = -1 := if_neg h
section
variable {τ σ : Type}
def ctl (ct : τ → Int) : List τ → Int
  | [] => 0
  | x :: xs => ct x + ctl ct xs
theorem ctl_nonneg {ct : τ → Int} (h : ∀ x, 0 ≤ ct x) : ∀ l, 0 ≤ ctl ct l
  | [] => Int.le_refl 0
  | x :: xs => by have h1 := h x; have h2 := ctl_nonneg h xs; simp only [ctl]; omega
theorem get_mid (A : List τ) (x : τ) (B : List τ) : (A ++ x :: B)[A.length]? = some x := by
  rw [List.getElem?_append_right (Nat.le_refl _), Nat.sub_self]; rfl
theorem set_mid (A : List τ) (x y : τ) (B : List τ) : (A ++ x :: B).set A.length y = A ++ [y] ++ B := by
  rw [List.set_append_right _ _ (Nat.le_refl _), Nat.sub_self]; simp
theorem fill_ev (xs : List τ) (c : τ → σ) (z : σ) {g : Nat → List σ → Int → Option (List σ)} (hend : ∀ l : List σ, l.length = xs.length → Ev (fun k => g k l (xs.length : Int)) l)
    (hstep : ∀ (l : List σ) (i : Nat) (x : τ) (r : List σ), xs[i]? = some x → l.length = xs.length → i < xs.length → Ev (fun k => g k (l.set i (c x)) ((i + 1 : Nat) : Int)) r → Ev (fun k => g k l (i : Int)) r) :
    Ev (fun k => g k (List.replicate xs.length z) 0) (xs.map c) := by
  have key : ∀ (B A : List τ), xs = A ++ B → Ev (fun k => g k (A.map c ++ List.replicate B.length z) (A.length : Int)) (xs.map c) := by
    intro B
    induction B with
    | nil =>
      intro A hA
      rw [List.append_nil] at hA
      have := hend (xs.map c) (by simp)
      subst hA
      simp only [List.length_nil, List.replicate_zero, List.append_nil]
      exact this
    | cons x B ih =>
      intro A hA
      have h1 := ih (A ++ [x]) (by simp [hA])
      refine hstep _ A.length x _ (by rw [hA]; exact get_mid A x B) (by simp [hA]) (by simp [hA]) ?_
      have e : (A.map c ++ List.replicate (x :: B).length z).set A.length (c x) = (A ++ [x]).map c ++ List.replicate B.length z := by
        have := set_mid (A.map c) z (c x) (List.replicate B.length z)
        rw [List.length_map] at this
        simp only [List.length_cons, List.replicate_succ, List.map_append, List.map_cons, List.map_nil]
        exact this
      rw [e]
      simp only [List.length_append, List.length_singleton] at h1
      exact h1
  have := key xs [] rfl
  simpa using this
theorem look_ev (xs : List τ) {ρ : Type} (r : ρ) {g : Nat → Int → Option ρ} (hend : Ev (fun k => g k (xs.length : Int)) r)
    (hstep : ∀ (i : Nat) (x : τ), xs[i]? = some x → i < xs.length → Ev (fun k => g k ((i + 1 : Nat) : Int)) r → Ev (fun k => g k (i : Int)) r) : Ev (fun k => g k 0) r := by
  refine back (n := xs.length) (Q := fun i => Ev (fun k => g k (i : Int)) r) hend (fun i hi h => ?_) 0 (Nat.zero_le _)
  exact hstep i xs[i] (List.getElem?_eq_getElem hi) hi h
theorem size_ev (xs : List τ) (wt : τ → Int) (hw : ∀ x, 0 ≤ wt x) (M : Int) {g : Nat → Int → Int → Option Int} (hend : ∀ t, Ev (fun k => g k t (xs.length : Int)) t)
    (hneg : ∀ (t : Int) (i : Nat) (x : τ), xs[i]? = some x → i < xs.length → 0 ≤ t → t ≤ M → t < wt x → Ev (fun k => g k t (i : Int)) (-1))
    (hpos : ∀ (t : Int) (i : Nat) (x : τ) (r : Int), xs[i]? = some x → i < xs.length → 0 ≤ t → t ≤ M → wt x ≤ t → Ev (fun k => g k (t - wt x) ((i + 1 : Nat) : Int)) r → Ev (fun k => g k t (i : Int)) r) :
    ∀ t, 0 ≤ t → t ≤ M → Ev (fun k => g k t 0) (lf (ctl wt xs) t) := by
  have key : ∀ (B A : List τ), xs = A ++ B → ∀ t, 0 ≤ t → t ≤ M → Ev (fun k => g k t (A.length : Int)) (lf (ctl wt B) t) := by
    intro B
    induction B with
    | nil =>
      intro A hA t h0 h1
      rw [List.append_nil] at hA
      rw [← hA]
      refine (hend t).to ?_
      simp only [ctl]
      rw [lf_pos h0]
      omega
    | cons x B ih =>
      intro A hA t h0 h1
      have hx : xs[A.length]? = some x := by rw [hA]; exact get_mid A x B
      have hi : A.length < xs.length := by simp [hA]
      have hwx := hw x
      have hwB := ctl_nonneg hw B
      simp only [ctl]
      by_cases h : wt x ≤ t
      · have h2 := ih (A ++ [x]) (by simp [hA]) (t - wt x) (by omega) (by omega)
        rw [List.length_append, List.length_singleton] at h2
        have h3 := hpos t A.length x _ hx hi h0 h1 h h2
        by_cases h4 : ctl wt B ≤ t - wt x
        · rw [lf_pos h4] at h3; rw [lf_pos (by omega)]; exact h3.to (by omega)
        · rw [lf_neg h4] at h3; rw [lf_neg (by omega)]; exact h3
      · rw [lf_neg (by omega)]
        exact hneg t A.length x hx hi h0 h1 (by omega)
  intro t h0 h1
  exact key xs [] rfl t h0 h1
theorem getD_get {xs : List τ} {i : Nat} {x d : τ} (h : xs[i]? = some x) : xs.getD ((i : Int)).toNat d = x := by
  rw [Int.toNat_natCast, List.getD_eq_getElem?_getD, h]; rfl
end
theorem rd_get {xs : List Int} {i : Nat} {x : Int} (h : xs[i]? = some x) : rd xs i = x := getD_get h
end Go.Proofs.YtmljebgideecjaaGreatZ
namespace Go.Proofs.YtmljebgideecjaaGreat.P2
open Go.RowKit Go.Proofs.YtmljebgideecjaaGreatW.PrintWords Go.Proofs.YtmljebgideecjaaGreatW.PrintLast Go.Proofs.YtmljebgideecjaaGreatZ
abbrev lWord := S176
abbrev iWord := S140
def cWord (x : lWord) : iWord := ⟨x.f0, x.f1, x.f2⟩
theorem szWordS_eq (l : List lWord) (t : Int) (h0 : 0 ≤ t) (h1 : t ≤ 1048576) (hl : l.length ≤ 9223372036854775807) : laws_szWordS.f l t = some (lf (l.length : Int) t) := by
  have e : wrap64 (t - (l.length : Int)) = t - l.length := w64 (by omega) (by omega)
  unfold laws_szWordS.f lf
  rw [e]
  by_cases h : (l.length : Int) ≤ t
  · rw [if_neg (by omega), if_pos h]
  · rw [if_pos (by omega), if_neg h]
theorem toWordS_ev (l : List lWord) (hl : l.length ≤ 1048576) : Ev (fun k => laws_toWordS.f k l) (l.map cWord) := by
  have c1 : (0 : Int) ≤ (l.length : Int) := by omega
  simp only [laws_toWordS.f, c1, if_true, Int.toNat_natCast]
  refine Ev.pos (by omega) ?_
  refine fill_ev l cWord z140 (g := fun k s i => laws_toWordS.l0 k l s i) ?_ ?_
  · intro s hs
    refine Ev.shift ?_
    simp only [laws_toWordS.l0, Int.lt_irrefl, if_false]
    exact Ev.now _
  · intro s i x r hx hs hi h
    have hr : rd_T176 l (i : Int) = x := getD_get hx
    refine Ev.shift ?_
    have d1 : (i : Int) < (l.length : Int) := by omega
    have d2 : (0 : Int) ≤ (i : Int) := by omega
    have d3 : (i : Int) < (s.length : Int) := by omega
    simp only [laws_toWordS.l0, laws_toWord.f, Option.bind_some, d1, d2, d3, if_true, hr, Int.toNat_natCast, succ64 hi (by omega)]
    exact h
theorem eqWordS_ev (l : List iWord) (hl : l.length ≤ 9223372036854775807) : Ev (fun k => laws_eqWordS.f k l l) true := by
  simp only [laws_eqWordS.f, if_true]
  refine look_ev l true (g := fun k i => laws_eqWordS.l0 k l l i) ?_ ?_
  · refine Ev.shift ?_
    simp only [laws_eqWordS.l0, Int.lt_irrefl, if_false]
    exact Ev.now _
  · intro i x hx hi h
    refine Ev.shift ?_
    have d1 : (i : Int) < (l.length : Int) := by omega
    have d2 : (0 : Int) ≤ (i : Int) := by omega
    simp only [laws_eqWordS.l0, laws_eqWord.f, bne_self_eq_false, Bool.false_eq_true, if_false, Option.bind_some, d1, d2, if_true, succ64 hi hl]
    exact h
abbrev lEntry := S224
abbrev iEntry := S165
def cEntry (x : lEntry) : iEntry := ⟨x.f0, x.f1, x.f2⟩
theorem szEntryS_eq (l : List lEntry) (t : Int) (h0 : 0 ≤ t) (h1 : t ≤ 1048576) (hl : l.length ≤ 9223372036854775807) : laws_szEntryS.f l t = some (lf (l.length : Int) t) := by
  have e : wrap64 (t - (l.length : Int)) = t - l.length := w64 (by omega) (by omega)
  unfold laws_szEntryS.f lf
  rw [e]
  by_cases h : (l.length : Int) ≤ t
  · rw [if_neg (by omega), if_pos h]
  · rw [if_pos (by omega), if_neg h]
theorem toEntryS_ev (l : List lEntry) (hl : l.length ≤ 1048576) : Ev (fun k => laws_toEntryS.f k l) (l.map cEntry) := by
  have c1 : (0 : Int) ≤ (l.length : Int) := by omega
  simp only [laws_toEntryS.f, c1, if_true, Int.toNat_natCast]
  refine Ev.pos (by omega) ?_
  refine fill_ev l cEntry z165 (g := fun k s i => laws_toEntryS.l0 k l s i) ?_ ?_
  · intro s hs
    refine Ev.shift ?_
    simp only [laws_toEntryS.l0, Int.lt_irrefl, if_false]
    exact Ev.now _
  · intro s i x r hx hs hi h
    have hr : rd_T224 l (i : Int) = x := getD_get hx
    refine Ev.shift ?_
    have d1 : (i : Int) < (l.length : Int) := by omega
    have d2 : (0 : Int) ≤ (i : Int) := by omega
    have d3 : (i : Int) < (s.length : Int) := by omega
    simp only [laws_toEntryS.l0, laws_toEntry.f, Option.bind_some, d1, d2, d3, if_true, hr, Int.toNat_natCast, succ64 hi (by omega)]
    exact h
theorem eqEntryS_ev (l : List iEntry) (hl : l.length ≤ 9223372036854775807) : Ev (fun k => laws_eqEntryS.f k l l) true := by
  simp only [laws_eqEntryS.f, if_true]
  refine look_ev l true (g := fun k i => laws_eqEntryS.l0 k l l i) ?_ ?_
  · refine Ev.shift ?_
    simp only [laws_eqEntryS.l0, Int.lt_irrefl, if_false]
    exact Ev.now _
  · intro i x hx hi h
    refine Ev.shift ?_
    have d1 : (i : Int) < (l.length : Int) := by omega
    have d2 : (0 : Int) ≤ (i : Int) := by omega
    simp only [laws_eqEntryS.l0, laws_eqEntry.f, bne_self_eq_false, Bool.false_eq_true, if_false, Option.bind_some, d1, d2, if_true, succ64 hi hl]
    exact h
theorem toIntS_ev (l : List Int) (hl : l.length ≤ 1048576) : Ev (fun k => laws_toIntS.f k l) l := by
  have c1 : (0 : Int) ≤ (l.length : Int) := by omega
  have c2 : l.length ≤ 35184372088832 := by omega
  simp only [laws_toIntS.f, c1, c2, if_true, Int.toNat_natCast]
  have h := fill_ev l id (0 : Int) (g := fun k s i => laws_toIntS.l0 k l s i) ?_ ?_
  · rw [List.map_id] at h
    exact h
  · intro s hs
    refine Ev.shift ?_
    simp only [laws_toIntS.l0, Int.lt_irrefl, if_false]
    exact Ev.now _
  · intro s i x r hx hs hi h
    refine Ev.shift ?_
    have d1 : (i : Int) < (l.length : Int) := by omega
    have d2 : (0 : Int) ≤ (i : Int) := by omega
    have d3 : (i : Int) < (s.length : Int) := by omega
    simp only [laws_toIntS.l0, d1, d2, d3, if_true, rd_get hx, Int.toNat_natCast, succ64 hi (by omega)]
    exact h
theorem eqIntS_ev (l : List Int) (hl : l.length ≤ 9223372036854775807) : Ev (fun k => laws_eqIntS.f k l l) true := by
  simp only [laws_eqIntS.f, if_true]
  refine look_ev l true (g := fun k i => laws_eqIntS.l0 k l l i) ?_ ?_
  · refine Ev.shift ?_
    simp only [laws_eqIntS.l0, Int.lt_irrefl, if_false]
    exact Ev.now _
  · intro i x hx hi h
    refine Ev.shift ?_
    have d1 : (i : Int) < (l.length : Int) := by omega
    have d2 : (0 : Int) ≤ (i : Int) := by omega
    simp only [laws_eqIntS.l0, d1, d2, if_true, succ64 hi hl]
    exact h
theorem szIntS_eq (l : List Int) (t : Int) (h0 : 0 ≤ t) (h1 : t ≤ 1048576) (hl : l.length ≤ 9223372036854775807) : laws_szIntS.f l t = some (lf (l.length : Int) t) := by
  have e : wrap64 (t - (l.length : Int)) = t - l.length := w64 (by omega) (by omega)
  unfold laws_szIntS.f lf
  rw [e]
  by_cases h : (l.length : Int) ≤ t
  · rw [if_neg (by omega), if_pos h]
  · rw [if_pos (by omega), if_neg h]
theorem lf_then {a b t : Int} {G : Int → Option Int} (ha : 0 ≤ a) (hb : 0 ≤ b) (ht : t ≤ 1048576) (hG : ∀ u, 0 ≤ u → u ≤ 1048576 → G u = some (lf b u)) : (if lf a t < 0 then some (-1) else G (lf a t)) = some (lf (a + b) t) := by
  by_cases h : a ≤ t
  · rw [lf_pos h, if_neg (by omega), hG _ (by omega) (by omega)]
    unfold lf
    by_cases h2 : b ≤ t - a
    · rw [if_pos h2, if_pos (by omega)]; congr 1; omega
    · rw [if_neg h2, if_neg (by omega)]
  · rw [lf_neg h, if_pos (by decide), lf_neg (by omega)]
theorem lf_last {a t : Int} (ha : 0 ≤ a) : (if lf a t < 0 then some (-1) else some (lf a t)) = some (lf a t) := by
  by_cases h : a ≤ t
  · rw [lf_pos h, if_neg (by omega)]
  · rw [lf_neg h, if_pos (by decide)]
theorem szRes_eq (a : Int) (l : List Int) (t : Int) (h0 : 0 ≤ t) (h1 : t ≤ 1048576) (hl : l.length ≤ 9223372036854775807) : laws_szRes.f a l t = some (lf (l.length : Int) t) := by
  simp only [laws_szRes.f]
  rw [szIntS_eq l t h0 h1 hl, Option.bind_some]
  exact lf_last (by omega)
theorem toRes_ev (a : Int) (l : List Int) (hl : l.length ≤ 1048576) : Ev (fun k => laws_toRes.f k a l) (a, l) := by
  simp only [laws_toRes.f]
  exact Ev.bind (toIntS_ev l hl) (Ev.now _)
theorem eqRes_ev (a : Int) (l : List Int) (hl : l.length ≤ 9223372036854775807) : Ev (fun k => laws_eqRes.f k a l a l) true := by
  simp only [laws_eqRes.f, if_true]
  refine Ev.bind (eqIntS_ev l hl) ?_
  simp only [if_true]
  exact Ev.now _
theorem ctl_mem {τ : Type} {ct : τ → Int} (h : ∀ x, 0 ≤ ct x) {x : τ} : ∀ {l : List τ}, x ∈ l → ct x ≤ ctl ct l
  | [], m => by cases m
  | y :: l, m => by
    have h1 := h y
    have h2 := ctl_nonneg h l
    simp only [ctl]
    rcases List.mem_cons.mp m with e | m
    · rw [e]; omega
    · have := ctl_mem h m; omega
abbrev lDesc := S155
abbrev iDesc := S162
def cDesc (x : lDesc) : iDesc := ⟨x.f0, x.f1, x.f2.map cEntry, ⟨x.f3.f0, x.f3.f1⟩⟩
def wtDesc (x : lDesc) : Int := (x.f2.length : Int) + x.f3.f1.length
def smDesc (x : iDesc) : Prop := x.f2.length ≤ 1048576 ∧ x.f3.f1.length ≤ 1048576
theorem wtDesc_nn (x : lDesc) : 0 ≤ wtDesc x := by unfold wtDesc; omega
theorem smDesc_of (x : lDesc) (h : wtDesc x ≤ 1048576) : smDesc (cDesc x) := by
  unfold wtDesc at h
  simp only [smDesc, cDesc, List.length_map]
  omega
theorem szDesc_eq (x : lDesc) (t : Int) (h0 : 0 ≤ t) (h1 : t ≤ 1048576) (hw : x.f2.length ≤ 9223372036854775807 ∧ x.f3.f1.length ≤ 9223372036854775807) : laws_szDesc.f x.f0 x.f1 x.f2 x.f3.f0 x.f3.f1 t = some (lf (wtDesc x) t) := by
  unfold wtDesc
  simp only [laws_szDesc.f]
  rw [szEntryS_eq _ t h0 h1 hw.1, Option.bind_some]
  exact lf_then (a := (x.f2.length : Int)) (b := (x.f3.f1.length : Int)) (G := fun u => (laws_szRes.f x.f3.f0 x.f3.f1 u).bind fun t103 => (if t103 < 0 then some (-1) else some t103)) (by omega) (by omega) h1 (fun u u0 u1 => by show (laws_szRes.f x.f3.f0 x.f3.f1 u).bind _ = _; rw [szRes_eq _ _ u u0 u1 hw.2, Option.bind_some]; exact lf_last (by omega))
theorem toDesc_ev (x : lDesc) (h : wtDesc x ≤ 1048576) : Ev (fun k => laws_toDesc.f k x.f0 x.f1 x.f2 x.f3.f0 x.f3.f1) (x.f0, x.f1, x.f2.map cEntry, x.f3.f0, x.f3.f1) := by
  unfold wtDesc at h
  simp only [laws_toDesc.f]
  refine Ev.bind (toEntryS_ev _ (by omega)) (Ev.bind (toRes_ev _ _ (by omega)) (Ev.now _))
theorem eqDesc_ev (x : iDesc) (h : smDesc x) : Ev (fun k => laws_eqDesc.f k x.f0 x.f1 x.f2 x.f3.f0 x.f3.f1 x.f0 x.f1 x.f2 x.f3.f0 x.f3.f1) true := by
  unfold smDesc at h
  simp only [laws_eqDesc.f, if_true]
  refine Ev.bind (eqEntryS_ev _ (by omega)) ?_
  simp only [if_true]
  refine Ev.bind (eqRes_ev _ _ (by omega)) ?_
  simp only [if_true]
  exact Ev.now _
theorem szDescS_ev (l : List lDesc) (hl : l.length ≤ 9223372036854775807) (hw : ∀ x ∈ l, x.f2.length ≤ 9223372036854775807 ∧ x.f3.f1.length ≤ 9223372036854775807) (t : Int) (h0 : 0 ≤ t) (h1 : t ≤ 1048576) : Ev (fun k => laws_szDescS.f k l t) (lf (l.length + ctl wtDesc l) t) := by
  have hc := ctl_nonneg wtDesc_nn l
  have e : wrap64 (t - (l.length : Int)) = t - l.length := w64 (by omega) (by omega)
  simp only [laws_szDescS.f, e]
  by_cases h : (l.length : Int) ≤ t
  · have c : ¬ (t - (l.length : Int) < 0) := by omega
    simp only [c, if_false]
    have h := size_ev l wtDesc wtDesc_nn 1048576 (g := fun k t i => laws_szDescS.l0 k l t i) ?_ ?_ ?_ (t - l.length) (by omega) (by omega)
    · refine h.to ?_
      unfold lf
      by_cases h2 : ctl wtDesc l ≤ t - l.length
      · rw [if_pos h2, if_pos (by omega)]; omega
      · rw [if_neg h2, if_neg (by omega)]
    · intro t
      refine Ev.shift ?_
      simp only [laws_szDescS.l0, Int.lt_irrefl, if_false]
      exact Ev.now _
    · intro t i x hx hi h0 h1 hlt
      have hr : rd_T155 l (i : Int) = x := getD_get hx
      have d1 : (i : Int) < (l.length : Int) := by omega
      have d2 : (0 : Int) ≤ (i : Int) := by omega
      refine Ev.shift ?_
      simp only [laws_szDescS.l0, d1, d2, if_true, hr, szDesc_eq x t h0 h1 (hw x (List.mem_of_getElem? hx)), lf_neg (show ¬ wtDesc x ≤ t by omega), Option.bind_some, show (-1 : Int) < 0 by decide]
      exact Ev.now _
    · intro t i x r hx hi h0 h1 hle h
      have hr : rd_T155 l (i : Int) = x := getD_get hx
      have d1 : (i : Int) < (l.length : Int) := by omega
      have d2 : (0 : Int) ≤ (i : Int) := by omega
      have d3 : ¬ (t - wtDesc x < 0) := by omega
      refine Ev.shift ?_
      simp only [laws_szDescS.l0, d1, d2, if_true, hr, szDesc_eq x t h0 h1 (hw x (List.mem_of_getElem? hx)), lf_pos hle, Option.bind_some, d3, if_false, succ64 hi hl]
      exact h
  · have c : t - (l.length : Int) < 0 := by omega
    simp only [c, if_true]
    exact Ev.val (lf_neg (by omega)).symm
theorem toDescS_ev (l : List lDesc) (hl : l.length ≤ 1048576) (hw : ctl wtDesc l ≤ 1048576) : Ev (fun k => laws_toDescS.f k l) (l.map cDesc) := by
  have c1 : (0 : Int) ≤ (l.length : Int) := by omega
  simp only [laws_toDescS.f, c1, if_true, Int.toNat_natCast]
  refine Ev.pos (by omega) ?_
  refine fill_ev l cDesc z162 (g := fun k s i => laws_toDescS.l0 k l s i) ?_ ?_
  · intro s hs
    refine Ev.shift ?_
    simp only [laws_toDescS.l0, Int.lt_irrefl, if_false]
    exact Ev.now _
  · intro s i x r hx hs hi h
    have hr : rd_T155 l (i : Int) = x := getD_get hx
    have hm := ctl_mem wtDesc_nn (List.mem_of_getElem? hx)
    refine Ev.shift ?_
    have d1 : (i : Int) < (l.length : Int) := by omega
    have d2 : (0 : Int) ≤ (i : Int) := by omega
    have d3 : (i : Int) < (s.length : Int) := by omega
    simp only [laws_toDescS.l0, d1, d2, if_true, hr]
    refine Ev.bind (toDesc_ev x (by omega)) ?_
    simp only [d3, if_true, Int.toNat_natCast, succ64 hi (by omega)]
    exact h
theorem eqDescS_ev (l : List iDesc) (hl : l.length ≤ 9223372036854775807) (hs : ∀ x ∈ l, smDesc x) : Ev (fun k => laws_eqDescS.f k l l) true := by
  simp only [laws_eqDescS.f, if_true]
  refine look_ev l true (g := fun k i => laws_eqDescS.l0 k l l i) ?_ ?_
  · refine Ev.shift ?_
    simp only [laws_eqDescS.l0, Int.lt_irrefl, if_false]
    exact Ev.now _
  · intro i x hx hi h
    have hr : rd_T162 l (i : Int) = x := getD_get hx
    refine Ev.shift ?_
    have d1 : (i : Int) < (l.length : Int) := by omega
    have d2 : (0 : Int) ≤ (i : Int) := by omega
    simp only [laws_eqDescS.l0, d1, d2, if_true, hr, succ64 hi hl]
    refine Ev.bind (eqDesc_ev x (hs x (List.mem_of_getElem? hx))) ?_
    simp only [if_true]
    exact h
abbrev lOp := S116
abbrev iOp := S69
def cOp (x : lOp) : iOp := ⟨x.f0, x.f1, x.f2⟩
theorem szOpS_eq (l : List lOp) (t : Int) (h0 : 0 ≤ t) (h1 : t ≤ 1048576) (hl : l.length ≤ 9223372036854775807) : laws_szOpS.f l t = some (lf (l.length : Int) t) := by
  have e : wrap64 (t - (l.length : Int)) = t - l.length := w64 (by omega) (by omega)
  unfold laws_szOpS.f lf
  rw [e]
  by_cases h : (l.length : Int) ≤ t
  · rw [if_neg (by omega), if_pos h]
  · rw [if_pos (by omega), if_neg h]
theorem toOpS_ev (l : List lOp) (hl : l.length ≤ 1048576) : Ev (fun k => laws_toOpS.f k l) (l.map cOp) := by
  have c1 : (0 : Int) ≤ (l.length : Int) := by omega
  simp only [laws_toOpS.f, c1, if_true, Int.toNat_natCast]
  refine Ev.pos (by omega) ?_
  refine fill_ev l cOp z69 (g := fun k s i => laws_toOpS.l0 k l s i) ?_ ?_
  · intro s hs
    refine Ev.shift ?_
    simp only [laws_toOpS.l0, Int.lt_irrefl, if_false]
    exact Ev.now _
  · intro s i x r hx hs hi h
    have hr : rd_T116 l (i : Int) = x := getD_get hx
    refine Ev.shift ?_
    have d1 : (i : Int) < (l.length : Int) := by omega
    have d2 : (0 : Int) ≤ (i : Int) := by omega
    have d3 : (i : Int) < (s.length : Int) := by omega
    simp only [laws_toOpS.l0, laws_toOp.f, Option.bind_some, d1, d2, d3, if_true, hr, Int.toNat_natCast, succ64 hi (by omega)]
    exact h
theorem eqOpS_ev (l : List iOp) (hl : l.length ≤ 9223372036854775807) : Ev (fun k => laws_eqOpS.f k l l) true := by
  simp only [laws_eqOpS.f, if_true]
  refine look_ev l true (g := fun k i => laws_eqOpS.l0 k l l i) ?_ ?_
  · refine Ev.shift ?_
    simp only [laws_eqOpS.l0, Int.lt_irrefl, if_false]
    exact Ev.now _
  · intro i x hx hi h
    refine Ev.shift ?_
    have d1 : (i : Int) < (l.length : Int) := by omega
    have d2 : (0 : Int) ≤ (i : Int) := by omega
    simp only [laws_eqOpS.l0, laws_eqOp.f, bne_self_eq_false, Bool.false_eq_true, if_false, Option.bind_some, d1, d2, if_true, succ64 hi hl]
    exact h
abbrev lPair := S204
abbrev iPair := S172
def cPair (x : lPair) : iPair := ⟨x.f0, x.f1⟩
theorem szPairS_eq (l : List lPair) (t : Int) (h0 : 0 ≤ t) (h1 : t ≤ 1048576) (hl : l.length ≤ 9223372036854775807) : laws_szPairS.f l t = some (lf (l.length : Int) t) := by
  have e : wrap64 (t - (l.length : Int)) = t - l.length := w64 (by omega) (by omega)
  unfold laws_szPairS.f lf
  rw [e]
  by_cases h : (l.length : Int) ≤ t
  · rw [if_neg (by omega), if_pos h]
  · rw [if_pos (by omega), if_neg h]
theorem toPairS_ev (l : List lPair) (hl : l.length ≤ 1048576) : Ev (fun k => laws_toPairS.f k l) (l.map cPair) := by
  have c1 : (0 : Int) ≤ (l.length : Int) := by omega
  simp only [laws_toPairS.f, c1, if_true, Int.toNat_natCast]
  refine Ev.pos (by omega) ?_
  refine fill_ev l cPair z172 (g := fun k s i => laws_toPairS.l0 k l s i) ?_ ?_
  · intro s hs
    refine Ev.shift ?_
    simp only [laws_toPairS.l0, Int.lt_irrefl, if_false]
    exact Ev.now _
  · intro s i x r hx hs hi h
    have hr : rd_T204 l (i : Int) = x := getD_get hx
    refine Ev.shift ?_
    have d1 : (i : Int) < (l.length : Int) := by omega
    have d2 : (0 : Int) ≤ (i : Int) := by omega
    have d3 : (i : Int) < (s.length : Int) := by omega
    simp only [laws_toPairS.l0, laws_toPair.f, Option.bind_some, d1, d2, d3, if_true, hr, Int.toNat_natCast, succ64 hi (by omega)]
    exact h
theorem eqPairS_ev (l : List iPair) (hl : l.length ≤ 9223372036854775807) : Ev (fun k => laws_eqPairS.f k l l) true := by
  simp only [laws_eqPairS.f, if_true]
  refine look_ev l true (g := fun k i => laws_eqPairS.l0 k l l i) ?_ ?_
  · refine Ev.shift ?_
    simp only [laws_eqPairS.l0, Int.lt_irrefl, if_false]
    exact Ev.now _
  · intro i x hx hi h
    refine Ev.shift ?_
    have d1 : (i : Int) < (l.length : Int) := by omega
    have d2 : (0 : Int) ≤ (i : Int) := by omega
    simp only [laws_eqPairS.l0, laws_eqPair.f, bne_self_eq_false, Bool.false_eq_true, if_false, Option.bind_some, d1, d2, if_true, succ64 hi hl]
    exact h
abbrev lHelp := S206
abbrev iHelp := S174
def cHelp (x : lHelp) : iHelp := ⟨x.f0, x.f1, x.f2, x.f3⟩
theorem szHelpS_eq (l : List lHelp) (t : Int) (h0 : 0 ≤ t) (h1 : t ≤ 1048576) (hl : l.length ≤ 9223372036854775807) : laws_szHelpS.f l t = some (lf (l.length : Int) t) := by
  have e : wrap64 (t - (l.length : Int)) = t - l.length := w64 (by omega) (by omega)
  unfold laws_szHelpS.f lf
  rw [e]
  by_cases h : (l.length : Int) ≤ t
  · rw [if_neg (by omega), if_pos h]
  · rw [if_pos (by omega), if_neg h]
theorem toHelpS_ev (l : List lHelp) (hl : l.length ≤ 1048576) : Ev (fun k => laws_toHelpS.f k l) (l.map cHelp) := by
  have c1 : (0 : Int) ≤ (l.length : Int) := by omega
  simp only [laws_toHelpS.f, c1, if_true, Int.toNat_natCast]
  refine Ev.pos (by omega) ?_
  refine fill_ev l cHelp z174 (g := fun k s i => laws_toHelpS.l0 k l s i) ?_ ?_
  · intro s hs
    refine Ev.shift ?_
    simp only [laws_toHelpS.l0, Int.lt_irrefl, if_false]
    exact Ev.now _
  · intro s i x r hx hs hi h
    have hr : rd_T206 l (i : Int) = x := getD_get hx
    refine Ev.shift ?_
    have d1 : (i : Int) < (l.length : Int) := by omega
    have d2 : (0 : Int) ≤ (i : Int) := by omega
    have d3 : (i : Int) < (s.length : Int) := by omega
    simp only [laws_toHelpS.l0, laws_toHelp.f, Option.bind_some, d1, d2, d3, if_true, hr, Int.toNat_natCast, succ64 hi (by omega)]
    exact h
theorem eqHelpS_ev (l : List iHelp) (hl : l.length ≤ 9223372036854775807) : Ev (fun k => laws_eqHelpS.f k l l) true := by
  simp only [laws_eqHelpS.f, if_true]
  refine look_ev l true (g := fun k i => laws_eqHelpS.l0 k l l i) ?_ ?_
  · refine Ev.shift ?_
    simp only [laws_eqHelpS.l0, Int.lt_irrefl, if_false]
    exact Ev.now _
  · intro i x hx hi h
    refine Ev.shift ?_
    have d1 : (i : Int) < (l.length : Int) := by omega
    have d2 : (0 : Int) ≤ (i : Int) := by omega
    simp only [laws_eqHelpS.l0, laws_eqHelp.f, bne_self_eq_false, Bool.false_eq_true, if_false, Option.bind_some, d1, d2, if_true, succ64 hi hl]
    exact h
abbrev lThread := S114
abbrev iThread := S97
def cThread (x : lThread) : iThread := ⟨x.f0.map cOp, x.f1, x.f2, x.f3.map cPair, x.f4.map cHelp⟩
def wtThread (x : lThread) : Int := (x.f0.length : Int) + (x.f3.length + x.f4.length)
def smThread (x : iThread) : Prop := x.f0.length ≤ 1048576 ∧ x.f3.length ≤ 1048576 ∧ x.f4.length ≤ 1048576
theorem wtThread_nn (x : lThread) : 0 ≤ wtThread x := by unfold wtThread; omega
theorem smThread_of (x : lThread) (h : wtThread x ≤ 1048576) : smThread (cThread x) := by
  unfold wtThread at h
  simp only [smThread, cThread, List.length_map]
  omega
theorem szThread_eq (x : lThread) (t : Int) (h0 : 0 ≤ t) (h1 : t ≤ 1048576) (hw : x.f0.length ≤ 9223372036854775807 ∧ x.f3.length ≤ 9223372036854775807 ∧ x.f4.length ≤ 9223372036854775807) : laws_szThread.f x.f0 x.f1 x.f2 x.f3 x.f4 t = some (lf (wtThread x) t) := by
  unfold wtThread
  simp only [laws_szThread.f]
  rw [szOpS_eq _ t h0 h1 hw.1, Option.bind_some]
  refine lf_then (a := (x.f0.length : Int)) (b := (x.f3.length : Int) + x.f4.length) (G := fun u => (laws_szPairS.f x.f3 u).bind fun t103 => (if t103 < 0 then some (-1) else (laws_szHelpS.f x.f4 t103).bind fun t104 => (if t104 < 0 then some (-1) else some t104))) (by omega) (by omega) h1 (fun u u0 u1 => ?_)
  show (laws_szPairS.f x.f3 u).bind _ = _
  rw [szPairS_eq _ u u0 u1 hw.2.1, Option.bind_some]
  exact lf_then (a := (x.f3.length : Int)) (b := (x.f4.length : Int)) (G := fun v => (laws_szHelpS.f x.f4 v).bind fun t104 => (if t104 < 0 then some (-1) else some t104)) (by omega) (by omega) u1 (fun v v0 v1 => by show (laws_szHelpS.f x.f4 v).bind _ = _; rw [szHelpS_eq _ v v0 v1 hw.2.2, Option.bind_some]; exact lf_last (by omega))
theorem toThread_ev (x : lThread) (h : wtThread x ≤ 1048576) : Ev (fun k => laws_toThread.f k x.f0 x.f1 x.f2 x.f3 x.f4) (x.f0.map cOp, x.f1, x.f2, x.f3.map cPair, x.f4.map cHelp) := by
  unfold wtThread at h
  simp only [laws_toThread.f]
  refine Ev.bind (toOpS_ev _ (by omega)) (Ev.bind (toPairS_ev _ (by omega)) (Ev.bind (toHelpS_ev _ (by omega)) (Ev.now _)))
theorem eqThread_ev (x : iThread) (h : smThread x) : Ev (fun k => laws_eqThread.f k x.f0 x.f1 x.f2 x.f3 x.f4 x.f0 x.f1 x.f2 x.f3 x.f4) true := by
  unfold smThread at h
  simp only [laws_eqThread.f]
  refine Ev.bind (eqOpS_ev _ (by omega)) ?_
  simp only [if_true, bne_self_eq_false, Bool.false_eq_true, if_false]
  refine Ev.bind (eqPairS_ev _ (by omega)) ?_
  simp only [if_true]
  refine Ev.bind (eqHelpS_ev _ (by omega)) ?_
  simp only [if_true]
  exact Ev.now _
theorem szThreadS_ev (l : List lThread) (hl : l.length ≤ 9223372036854775807) (hw : ∀ x ∈ l, x.f0.length ≤ 9223372036854775807 ∧ x.f3.length ≤ 9223372036854775807 ∧ x.f4.length ≤ 9223372036854775807) (t : Int) (h0 : 0 ≤ t) (h1 : t ≤ 1048576) : Ev (fun k => laws_szThreadS.f k l t) (lf (l.length + ctl wtThread l) t) := by
  have hc := ctl_nonneg wtThread_nn l
  have e : wrap64 (t - (l.length : Int)) = t - l.length := w64 (by omega) (by omega)
  simp only [laws_szThreadS.f, e]
  by_cases h : (l.length : Int) ≤ t
  · have c : ¬ (t - (l.length : Int) < 0) := by omega
    simp only [c, if_false]
    have h := size_ev l wtThread wtThread_nn 1048576 (g := fun k t i => laws_szThreadS.l0 k l t i) ?_ ?_ ?_ (t - l.length) (by omega) (by omega)
    · refine h.to ?_
      unfold lf
      by_cases h2 : ctl wtThread l ≤ t - l.length
      · rw [if_pos h2, if_pos (by omega)]; omega
      · rw [if_neg h2, if_neg (by omega)]
    · intro t
      refine Ev.shift ?_
      simp only [laws_szThreadS.l0, Int.lt_irrefl, if_false]
      exact Ev.now _
    · intro t i x hx hi h0 h1 hlt
      have hr : rd_T114 l (i : Int) = x := getD_get hx
      have d1 : (i : Int) < (l.length : Int) := by omega
      have d2 : (0 : Int) ≤ (i : Int) := by omega
      refine Ev.shift ?_
      simp only [laws_szThreadS.l0, d1, d2, if_true, hr, szThread_eq x t h0 h1 (hw x (List.mem_of_getElem? hx)), lf_neg (show ¬ wtThread x ≤ t by omega), Option.bind_some, show (-1 : Int) < 0 by decide]
      exact Ev.now _
    · intro t i x r hx hi h0 h1 hle h
      have hr : rd_T114 l (i : Int) = x := getD_get hx
      have d1 : (i : Int) < (l.length : Int) := by omega
      have d2 : (0 : Int) ≤ (i : Int) := by omega
      have d3 : ¬ (t - wtThread x < 0) := by omega
      refine Ev.shift ?_
      simp only [laws_szThreadS.l0, d1, d2, if_true, hr, szThread_eq x t h0 h1 (hw x (List.mem_of_getElem? hx)), lf_pos hle, Option.bind_some, d3, if_false, succ64 hi hl]
      exact h
  · have c : t - (l.length : Int) < 0 := by omega
    simp only [c, if_true]
    exact Ev.val (lf_neg (by omega)).symm
theorem toThreadS_ev (l : List lThread) (hl : l.length ≤ 1048576) (hw : ctl wtThread l ≤ 1048576) : Ev (fun k => laws_toThreadS.f k l) (l.map cThread) := by
  have c1 : (0 : Int) ≤ (l.length : Int) := by omega
  simp only [laws_toThreadS.f, c1, if_true, Int.toNat_natCast]
  refine Ev.pos (by omega) ?_
  refine fill_ev l cThread z97 (g := fun k s i => laws_toThreadS.l0 k l s i) ?_ ?_
  · intro s hs
    refine Ev.shift ?_
    simp only [laws_toThreadS.l0, Int.lt_irrefl, if_false]
    exact Ev.now _
  · intro s i x r hx hs hi h
    have hr : rd_T114 l (i : Int) = x := getD_get hx
    have hm := ctl_mem wtThread_nn (List.mem_of_getElem? hx)
    refine Ev.shift ?_
    have d1 : (i : Int) < (l.length : Int) := by omega
    have d2 : (0 : Int) ≤ (i : Int) := by omega
    have d3 : (i : Int) < (s.length : Int) := by omega
    simp only [laws_toThreadS.l0, d1, d2, if_true, hr]
    refine Ev.bind (toThread_ev x (by omega)) ?_
    simp only [d3, if_true, Int.toNat_natCast, succ64 hi (by omega)]
    exact h
theorem eqThreadS_ev (l : List iThread) (hl : l.length ≤ 9223372036854775807) (hs : ∀ x ∈ l, smThread x) : Ev (fun k => laws_eqThreadS.f k l l) true := by
  simp only [laws_eqThreadS.f, if_true]
  refine look_ev l true (g := fun k i => laws_eqThreadS.l0 k l l i) ?_ ?_
  · refine Ev.shift ?_
    simp only [laws_eqThreadS.l0, Int.lt_irrefl, if_false]
    exact Ev.now _
  · intro i x hx hi h
    have hr : rd_T97 l (i : Int) = x := getD_get hx
    refine Ev.shift ?_
    have d1 : (i : Int) < (l.length : Int) := by omega
    have d2 : (0 : Int) ≤ (i : Int) := by omega
    simp only [laws_eqThreadS.l0, d1, d2, if_true, hr, succ64 hi hl]
    refine Ev.bind (eqThread_ev x (hs x (List.mem_of_getElem? hx))) ?_
    simp only [if_true]
    exact h
abbrev lCall := S119
abbrev iCall := S73
def cCall (x : lCall) : iCall := ⟨x.f0, ⟨x.f1.f0, x.f1.f1, x.f1.f2⟩, x.f2, x.f3, x.f4, ⟨x.f5.f0, x.f5.f1⟩⟩
def wtCall (x : lCall) : Int := (x.f5.f1.length : Int)
def smCall (x : iCall) : Prop := x.f5.f1.length ≤ 1048576
theorem wtCall_nn (x : lCall) : 0 ≤ wtCall x := by unfold wtCall; omega
theorem smCall_of (x : lCall) (h : wtCall x ≤ 1048576) : smCall (cCall x) := by
  unfold wtCall at h
  simp only [smCall, cCall, List.length_map]
  omega
theorem szCall_eq (x : lCall) (t : Int) (h0 : 0 ≤ t) (h1 : t ≤ 1048576) (hw : x.f5.f1.length ≤ 9223372036854775807) : laws_szCall.f x.f0 x.f1.f0 x.f1.f1 x.f1.f2 x.f2 x.f3 x.f4 x.f5.f0 x.f5.f1 t = some (lf (wtCall x) t) := by
  unfold wtCall
  simp only [laws_szCall.f]
  rw [szRes_eq _ _ t h0 h1 hw, Option.bind_some]
  exact lf_last (by omega)
theorem toCall_ev (x : lCall) (h : wtCall x ≤ 1048576) : Ev (fun k => laws_toCall.f k x.f0 x.f1.f0 x.f1.f1 x.f1.f2 x.f2 x.f3 x.f4 x.f5.f0 x.f5.f1) (x.f0, x.f1.f0, x.f1.f1, x.f1.f2, x.f2, x.f3, x.f4, x.f5.f0, x.f5.f1) := by
  unfold wtCall at h
  simp only [laws_toCall.f, laws_toOp.f, Option.bind_some]
  exact Ev.bind (toRes_ev _ _ (by omega)) (Ev.now _)
theorem eqCall_ev (x : iCall) (h : smCall x) : Ev (fun k => laws_eqCall.f k x.f0 x.f1.f0 x.f1.f1 x.f1.f2 x.f2 x.f3 x.f4 x.f5.f0 x.f5.f1 x.f0 x.f1.f0 x.f1.f1 x.f1.f2 x.f2 x.f3 x.f4 x.f5.f0 x.f5.f1) true := by
  unfold smCall at h
  simp only [laws_eqCall.f, laws_eqOp.f, if_true, Option.bind_some]
  refine Ev.bind (eqRes_ev _ _ (by omega)) ?_
  simp only [if_true]
  exact Ev.now _
theorem szCallS_ev (l : List lCall) (hl : l.length ≤ 9223372036854775807) (hw : ∀ x ∈ l, x.f5.f1.length ≤ 9223372036854775807) (t : Int) (h0 : 0 ≤ t) (h1 : t ≤ 1048576) : Ev (fun k => laws_szCallS.f k l t) (lf (l.length + ctl wtCall l) t) := by
  have hc := ctl_nonneg wtCall_nn l
  have e : wrap64 (t - (l.length : Int)) = t - l.length := w64 (by omega) (by omega)
  simp only [laws_szCallS.f, e]
  by_cases h : (l.length : Int) ≤ t
  · have c : ¬ (t - (l.length : Int) < 0) := by omega
    simp only [c, if_false]
    have h := size_ev l wtCall wtCall_nn 1048576 (g := fun k t i => laws_szCallS.l0 k l t i) ?_ ?_ ?_ (t - l.length) (by omega) (by omega)
    · refine h.to ?_
      unfold lf
      by_cases h2 : ctl wtCall l ≤ t - l.length
      · rw [if_pos h2, if_pos (by omega)]; omega
      · rw [if_neg h2, if_neg (by omega)]
    · intro t
      refine Ev.shift ?_
      simp only [laws_szCallS.l0, Int.lt_irrefl, if_false]
      exact Ev.now _
    · intro t i x hx hi h0 h1 hlt
      have hr : rd_T119 l (i : Int) = x := getD_get hx
      have d1 : (i : Int) < (l.length : Int) := by omega
      have d2 : (0 : Int) ≤ (i : Int) := by omega
      refine Ev.shift ?_
      simp only [laws_szCallS.l0, d1, d2, if_true, hr, szCall_eq x t h0 h1 (hw x (List.mem_of_getElem? hx)), lf_neg (show ¬ wtCall x ≤ t by omega), Option.bind_some, show (-1 : Int) < 0 by decide]
      exact Ev.now _
    · intro t i x r hx hi h0 h1 hle h
      have hr : rd_T119 l (i : Int) = x := getD_get hx
      have d1 : (i : Int) < (l.length : Int) := by omega
      have d2 : (0 : Int) ≤ (i : Int) := by omega
      have d3 : ¬ (t - wtCall x < 0) := by omega
      refine Ev.shift ?_
      simp only [laws_szCallS.l0, d1, d2, if_true, hr, szCall_eq x t h0 h1 (hw x (List.mem_of_getElem? hx)), lf_pos hle, Option.bind_some, d3, if_false, succ64 hi hl]
      exact h
  · have c : t - (l.length : Int) < 0 := by omega
    simp only [c, if_true]
    exact Ev.val (lf_neg (by omega)).symm
theorem toCallS_ev (l : List lCall) (hl : l.length ≤ 1048576) (hw : ctl wtCall l ≤ 1048576) : Ev (fun k => laws_toCallS.f k l) (l.map cCall) := by
  have c1 : (0 : Int) ≤ (l.length : Int) := by omega
  simp only [laws_toCallS.f, c1, if_true, Int.toNat_natCast]
  refine Ev.pos (by omega) ?_
  refine fill_ev l cCall z73 (g := fun k s i => laws_toCallS.l0 k l s i) ?_ ?_
  · intro s hs
    refine Ev.shift ?_
    simp only [laws_toCallS.l0, Int.lt_irrefl, if_false]
    exact Ev.now _
  · intro s i x r hx hs hi h
    have hr : rd_T119 l (i : Int) = x := getD_get hx
    have hm := ctl_mem wtCall_nn (List.mem_of_getElem? hx)
    refine Ev.shift ?_
    have d1 : (i : Int) < (l.length : Int) := by omega
    have d2 : (0 : Int) ≤ (i : Int) := by omega
    have d3 : (i : Int) < (s.length : Int) := by omega
    simp only [laws_toCallS.l0, d1, d2, if_true, hr]
    refine Ev.bind (toCall_ev x (by omega)) ?_
    simp only [d3, if_true, Int.toNat_natCast, succ64 hi (by omega)]
    exact h
theorem eqCallS_ev (l : List iCall) (hl : l.length ≤ 9223372036854775807) (hs : ∀ x ∈ l, smCall x) : Ev (fun k => laws_eqCallS.f k l l) true := by
  simp only [laws_eqCallS.f, if_true]
  refine look_ev l true (g := fun k i => laws_eqCallS.l0 k l l i) ?_ ?_
  · refine Ev.shift ?_
    simp only [laws_eqCallS.l0, Int.lt_irrefl, if_false]
    exact Ev.now _
  · intro i x hx hi h
    have hr : rd_T73 l (i : Int) = x := getD_get hx
    refine Ev.shift ?_
    have d1 : (i : Int) < (l.length : Int) := by omega
    have d2 : (0 : Int) ≤ (i : Int) := by omega
    simp only [laws_eqCallS.l0, d1, d2, if_true, hr, succ64 hi hl]
    refine Ev.bind (eqCall_ev x (hs x (List.mem_of_getElem? hx))) ?_
    simp only [if_true]
    exact h
theorem lf_thenE {a b t : Int} {g : Nat → Option Int} {G : Int → Nat → Option Int} (ha : 0 ≤ a) (hb : 0 ≤ b) (ht : t ≤ 1048576) (hg : Ev g (lf a t)) (hG : ∀ u, 0 ≤ u → u ≤ 1048576 → Ev (G u) (lf b u)) : Ev (fun k => (g k).bind fun u => if u < 0 then some (-1) else G u k) (lf (a + b) t) := by
  refine Ev.bind hg ?_
  by_cases h : a ≤ t
  · rw [lf_pos h]
    refine Ev.neg (by omega) ((hG _ (by omega) (by omega)).to ?_)
    unfold lf
    by_cases h2 : b ≤ t - a
    · rw [if_pos h2, if_pos (by omega)]; omega
    · rw [if_neg h2, if_neg (by omega)]
  · rw [lf_neg h]
    refine Ev.pos (by decide) (Ev.val (lf_neg (by omega)).symm)
theorem lf_lastE {a t : Int} {g : Nat → Option Int} (ha : 0 ≤ a) (hg : Ev g (lf a t)) : Ev (fun k => (g k).bind fun u => if u < 0 then some (-1) else some u) (lf a t) := by
  refine Ev.bind hg ?_
  by_cases h : a ≤ t
  · rw [lf_pos h]; exact Ev.neg (by omega) (Ev.now _)
  · rw [lf_neg h]; exact Ev.pos (by decide) (Ev.now _)
def wfDs (d : List lDesc) : Prop := d.length ≤ 9223372036854775807 ∧ ∀ x ∈ d, x.f2.length ≤ 9223372036854775807 ∧ x.f3.f1.length ≤ 9223372036854775807
def wfTs (d : List lThread) : Prop := d.length ≤ 9223372036854775807 ∧ ∀ x ∈ d, x.f0.length ≤ 9223372036854775807 ∧ x.f3.length ≤ 9223372036854775807 ∧ x.f4.length ≤ 9223372036854775807
def wfCs (d : List lCall) : Prop := d.length ≤ 9223372036854775807 ∧ ∀ x ∈ d, x.f5.f1.length ≤ 9223372036854775807
def wtMem (w : List lWord) (d : List lDesc) : Int := (w.length : Int) + (d.length + ctl wtDesc d)
def wtTail (t : List lThread) (c : List lCall) (p q : List Int) : Int := ((t.length : Int) + ctl wtThread t) + (((c.length : Int) + ctl wtCall c) + ((p.length : Int) + q.length))
theorem szMem_ev (w : List lWord) (d : List lDesc) (t : Int) (h0 : 0 ≤ t) (h1 : t ≤ 1048576) (hw : w.length ≤ 9223372036854775807) (hd : wfDs d) : Ev (fun k => laws_szMem.f k w d t) (lf (wtMem w d) t) := by
  have c1 := ctl_nonneg wtDesc_nn d
  simp only [laws_szMem.f]
  exact lf_thenE (G := fun u k => (laws_szDescS.f k d u).bind fun v => if v < 0 then some (-1) else some v) (by omega) (by omega) h1 (Ev.of_eq (szWordS_eq w t h0 h1 hw)) (fun u u0 u1 => lf_lastE (by omega) (szDescS_ev d hd.1 hd.2 u u0 u1))
theorem szMachine_ev (w : List lWord) (d : List lDesc) (t : List lThread) (n : Int) (c : List lCall) (p q : List Int) (s m : Int) (h0 : 0 ≤ m) (h1 : m ≤ 1048576) (hw : w.length ≤ 9223372036854775807) (hd : wfDs d) (ht : wfTs t) (hc : wfCs c) (hp : p.length ≤ 9223372036854775807) (hq : q.length ≤ 9223372036854775807) :
    Ev (fun k => laws_szMachine.f k w d t n c p q s m) (lf (wtMem w d + wtTail t c p q) m) := by
  have c1 := ctl_nonneg wtDesc_nn d
  have c2 := ctl_nonneg wtThread_nn t
  have c3 := ctl_nonneg wtCall_nn c
  simp only [laws_szMachine.f]
  unfold wtTail
  refine lf_thenE (G := fun u k => (laws_szThreadS.f k t u).bind fun v => if v < 0 then some (-1) else (laws_szCallS.f k c v).bind fun x => if x < 0 then some (-1) else (laws_szIntS.f p x).bind fun y => if y < 0 then some (-1) else (laws_szRows.f q s y).bind fun z => if z < 0 then some (-1) else some z) (by unfold wtMem; omega) (by omega) h1 (szMem_ev w d m h0 h1 hw hd) (fun u u0 u1 => ?_)
  refine lf_thenE (G := fun v k => (laws_szCallS.f k c v).bind fun x => if x < 0 then some (-1) else (laws_szIntS.f p x).bind fun y => if y < 0 then some (-1) else (laws_szRows.f q s y).bind fun z => if z < 0 then some (-1) else some z) (by omega) (by omega) u1 (szThreadS_ev t ht.1 ht.2 u u0 u1) (fun v v0 v1 => ?_)
  refine lf_thenE (G := fun x k => (laws_szIntS.f p x).bind fun y => if y < 0 then some (-1) else (laws_szRows.f q s y).bind fun z => if z < 0 then some (-1) else some z) (by omega) (by omega) v1 (szCallS_ev c hc.1 hc.2 v v0 v1) (fun x x0 x1 => ?_)
  refine lf_thenE (G := fun y k => (laws_szRows.f q s y).bind fun z => if z < 0 then some (-1) else some z) (by omega) (by omega) x1 (Ev.of_eq (szIntS_eq p x x0 x1 hp)) (fun y y0 y1 => ?_)
  refine lf_lastE (by omega) (Ev.of_eq ?_)
  simp only [laws_szRows.f]
  rw [szIntS_eq q y y0 y1 hq, Option.bind_some]
  exact lf_last (by omega)
theorem toMachine_ev (w : List lWord) (d : List lDesc) (t : List lThread) (n : Int) (c : List lCall) (p q : List Int) (s : Int) (h : wtMem w d + wtTail t c p q ≤ 1048576) :
    Ev (fun k => laws_toMachine.f k w d t n c p q s) (w.map cWord, d.map cDesc, t.map cThread, n, c.map cCall, p, q, s) := by
  have c1 := ctl_nonneg wtDesc_nn d
  have c2 := ctl_nonneg wtThread_nn t
  have c3 := ctl_nonneg wtCall_nn c
  unfold wtMem wtTail at h
  have hm : Ev (fun k => laws_toMem.f k w d) (w.map cWord, d.map cDesc) := by
    simp only [laws_toMem.f]
    exact Ev.bind (toWordS_ev w (by omega)) (Ev.bind (toDescS_ev d (by omega) (by omega)) (Ev.now _))
  have hr : Ev (fun k => laws_toRows.f k q s) (q, s) := by
    simp only [laws_toRows.f]
    exact Ev.bind (toIntS_ev q (by omega)) (Ev.now _)
  simp only [laws_toMachine.f]
  exact Ev.bind hm (Ev.bind (toThreadS_ev t (by omega) (by omega)) (Ev.bind (toCallS_ev c (by omega) (by omega)) (Ev.bind (toIntS_ev p (by omega)) (Ev.bind hr (Ev.now _)))))
theorem small_all {τ σ : Type} {ct : τ → Int} {f : τ → σ} {sm : σ → Prop} (hn : ∀ x, 0 ≤ ct x) (hs : ∀ x, ct x ≤ 1048576 → sm (f x)) {l : List τ} (h : ctl ct l ≤ 1048576) : ∀ y ∈ l.map f, sm y := fun y hy => by
  obtain ⟨x, hx, rfl⟩ := List.mem_map.mp hy
  exact hs x (Int.le_trans (ctl_mem hn hx) h)
theorem eqMachine_ev (w : List lWord) (d : List lDesc) (t : List lThread) (n : Int) (c : List lCall) (p q : List Int) (s : Int) (h : wtMem w d + wtTail t c p q ≤ 1048576) :
    Ev (fun k => laws_eqMachine.f k (w.map cWord) (d.map cDesc) (t.map cThread) n (c.map cCall) p q s (w.map cWord) (d.map cDesc) (t.map cThread) n (c.map cCall) p q s) true := by
  have c1 := ctl_nonneg wtDesc_nn d
  have c2 := ctl_nonneg wtThread_nn t
  have c3 := ctl_nonneg wtCall_nn c
  unfold wtMem wtTail at h
  have hm : Ev (fun k => laws_eqMem.f k (w.map cWord) (d.map cDesc) (w.map cWord) (d.map cDesc)) true := by
    simp only [laws_eqMem.f]
    refine Ev.bind (eqWordS_ev _ (by rw [List.length_map]; omega)) ?_
    simp only [if_true]
    refine Ev.bind (eqDescS_ev _ (by rw [List.length_map]; omega) (small_all wtDesc_nn smDesc_of (by omega))) ?_
    simp only [if_true]
    exact Ev.now _
  have hr : Ev (fun k => laws_eqRows.f k q s q s) true := by
    simp only [laws_eqRows.f]
    refine Ev.bind (eqIntS_ev q (by omega)) ?_
    simp only [if_true]
    exact Ev.now _
  simp only [laws_eqMachine.f]
  refine Ev.bind hm ?_
  simp only [if_true]
  refine Ev.bind (eqThreadS_ev _ (by rw [List.length_map]; omega) (small_all wtThread_nn smThread_of (by omega))) ?_
  simp only [if_true]
  refine Ev.bind (eqCallS_ev _ (by rw [List.length_map]; omega) (small_all wtCall_nn smCall_of (by omega))) ?_
  simp only [if_true]
  refine Ev.bind (eqIntS_ev p (by omega)) ?_
  simp only [if_true]
  refine Ev.bind hr ?_
  simp only [if_true]
  exact Ev.now _
end Go.Proofs.YtmljebgideecjaaGreat.P2
namespace Go.Proofs.YtmljebgideecjaaGreatW.PrintWords
end Go.Proofs.YtmljebgideecjaaGreatW.PrintWords
namespace Go.Proofs.YtmljebgideecjaaGreatZ
open Go.RowKit Go.Proofs.YtmljebgideecjaaGreatW.PrintWords
def EvB (g : Nat → Option Bool) (p : Prop) : Prop := ∃ r : Bool, Ev g r ∧ (r = true ↔ p)
section
variable {g f : Nat → Option Bool} {p q : Prop}
theorem EvB.yes (h : Ev g true) (hp : p) : EvB g p := ⟨true, h, iff_of_true rfl hp⟩
theorem EvB.no (h : Ev g false) (hp : ¬ p) : EvB g p := ⟨false, h, iff_of_false (by decide) hp⟩
theorem EvB.iff (h : EvB g p) (e : p ↔ q) : EvB g q := h.elim fun r hr => ⟨r, hr.1, hr.2.trans e⟩
theorem EvB.now {b : Bool} (h : b = true ↔ p) : EvB (fun _ => some b) p := ⟨b, Ev.now _, h⟩
theorem EvB.of_eq {o : Option Bool} {b : Bool} (h : o = some b) (e : b = true ↔ p) : EvB (fun _ => o) p := ⟨b, Ev.of_eq h, e⟩
theorem EvB.shift (h : EvB (fun k => g (k + 1)) p) : EvB g p := h.elim fun r hr => ⟨r, Ev.shift hr.1, hr.2⟩
theorem EvB.pos {c : Prop} [Decidable c] (h : c) (hg : EvB g p) : EvB (fun k => if c then g k else f k) p := hg.elim fun r hr => ⟨r, Ev.pos h hr.1, hr.2⟩
theorem EvB.neg {c : Prop} [Decidable c] (h : ¬ c) (hg : EvB f p) : EvB (fun k => if c then g k else f k) p := hg.elim fun r hr => ⟨r, Ev.neg h hr.1, hr.2⟩
theorem EvB.ite {c : Prop} [Decidable c] (hg : c → EvB g p) (hf : ¬ c → EvB f p) : EvB (fun k => if c then g k else f k) p := by
  by_cases h : c
  · exact EvB.pos h (hg h)
  · exact EvB.neg h (hf h)
theorem EvB.both {o : Nat → Option Bool} (h : EvB g p) (h' : EvB o p) : ∃ r, Ev g r ∧ Ev o r := by
  obtain ⟨r, h1, h2⟩ := h
  obtain ⟨s, h3, h4⟩ := h'
  have : r = s := by rw [Bool.eq_iff_iff]; exact h2.trans h4.symm
  subst this
  exact ⟨r, h1, h3⟩
theorem EvB.val (h : EvB g p) (hp : p) : Ev g true := h.elim fun r hr => by obtain rfl := hr.2.2 hp; exact hr.1
theorem EvB.nval (h : EvB g p) (hp : ¬ p) : Ev g false := h.elim fun r hr => by
  cases r with
  | false => exact hr.1
  | true => exact absurd (hr.2.1 rfl) hp
end
theorem EvB.then_ {α : Type} {g : Nat → Option Bool} {p : Prop} {F : Nat → Bool → Option α} {r : α} (h : EvB g p) (ht : p → Ev (fun k => F k true) r) (hf : ¬ p → Ev (fun k => F k false) r) : Ev (fun k => (g k).bind (F k)) r := by
  by_cases hp : p
  · exact Ev.bind (h.val hp) (ht hp)
  · exact Ev.bind (h.nval hp) (hf hp)
theorem EvB.bind {g : Nat → Option Bool} {p q : Prop} {F : Nat → Bool → Option Bool} (h : EvB g p) (ht : p → EvB (fun k => F k true) q) (hf : ¬ p → EvB (fun k => F k false) q) : EvB (fun k => (g k).bind (F k)) q := by
  by_cases hp : p
  · obtain ⟨r, h1, h2⟩ := ht hp
    exact ⟨r, Ev.bind (h.val hp) h1, h2⟩
  · obtain ⟨r, h1, h2⟩ := hf hp
    exact ⟨r, Ev.bind (h.nval hp) h1, h2⟩
theorem EvB.at {α : Type} {g : Nat → Option α} {a : α} {q : Prop} {F : Nat → α → Option Bool} (h : Ev g a) (ht : EvB (fun k => F k a) q) : EvB (fun k => (g k).bind (F k)) q := ht.elim fun r hr => ⟨r, Ev.bind h hr.1, hr.2⟩
theorem EvB.loop {n : Nat} {P : Nat → Prop} {Q : Prop} {g : Nat → Nat → Option Bool} (hend : (∀ i, i < n → P i) → EvB (g n) Q)
    (hbad : ∀ i, i < n → (∀ j, j < i → P j) → ¬ P i → Ev (g i) false)
    (hgood : ∀ i, i < n → (∀ j, j < i → P j) → P i → ∀ r, Ev (g (i + 1)) r → Ev (g i) r) : EvB (g 0) ((∀ i, i < n → P i) ∧ Q) := by
  have key : ∀ d i, i + d = n → (∀ j, j < i → P j) → EvB (g i) ((∀ i, i < n → P i) ∧ Q) := by
    intro d
    induction d with
    | zero =>
      intro i hi hp
      obtain rfl : i = n := by omega
      exact (hend hp).iff ⟨fun q => ⟨hp, q⟩, fun a => a.2⟩
    | succ d ih =>
      intro i hi hp
      by_cases h : P i
      · obtain ⟨r, h1, h2⟩ := ih (i + 1) (by omega) (fun j hj => by
          rcases Nat.lt_succ_iff_lt_or_eq.mp hj with a | a
          · exact hp j a
          · rw [a]; exact h)
        exact ⟨r, hgood i (by omega) hp h r h1, h2⟩
      · exact EvB.no (hbad i (by omega) hp h) (fun a => h (a.1 i (by omega)))
  exact key n 0 (by omega) (fun j hj => absurd hj (Nat.not_lt_zero _))
theorem inner_ev {n : Nat} {P : Nat → Prop} {r : Bool} {g : Nat → Nat → Option Bool} (hend : (∀ j, j < n → P j) → Ev (g n) r) (hno : ¬ (∀ j, j < n → P j) → r = false)
    (hbad : ∀ j, j < n → ¬ P j → Ev (g j) false) (hgood : ∀ j, j < n → P j → Ev (g (j + 1)) r → Ev (g j) r) : Ev (g 0) r := by
  have key : ∀ d i, i + d = n → (∀ j, j < i → P j) → Ev (g i) r := by
    intro d
    induction d with
    | zero =>
      intro i hi hp
      obtain rfl : i = n := by omega
      exact hend hp
    | succ d ih =>
      intro i hi hp
      by_cases h : P i
      · refine hgood i (by omega) h (ih (i + 1) (by omega) (fun j hj => ?_))
        rcases Nat.lt_succ_iff_lt_or_eq.mp hj with a | a
        · exact hp j a
        · rw [a]; exact h
      · have e := hno (fun a => h (a i (by omega)))
        rw [e]
        exact hbad i (by omega) h
  exact key n 0 (by omega) (fun j hj => absurd hj (Nat.not_lt_zero _))
section
variable {τ : Type}
theorem each_iff {xs : List τ} {R : Nat → τ → Prop} : (∀ i, i < xs.length → ∀ x, xs[i]? = some x → R i x) ↔ (∀ i x, xs[i]? = some x → R i x) :=
  ⟨fun h i x hx => h i (List.getElem?_eq_some_iff.mp hx).1 x hx, fun h i _ x hx => h i x hx⟩
theorem each_mem {xs : List τ} {R : τ → Prop} : (∀ (i : Nat) x, xs[i]? = some x → R x) ↔ (∀ x ∈ xs, R x) :=
  ⟨fun h x hx => by obtain ⟨i, hi, e⟩ := List.mem_iff_getElem.mp hx; exact h i x (by rw [← e]; exact List.getElem?_eq_getElem hi), fun h i x (hx : xs[i]? = some x) => h x (List.mem_of_getElem? hx)⟩
theorem EvB.each (xs : List τ) {R : Nat → τ → Prop} {Q : Prop} {g : Nat → Nat → Option Bool} (hend : (∀ i x, xs[i]? = some x → R i x) → EvB (g xs.length) Q)
    (hbad : ∀ i x, xs[i]? = some x → i < xs.length → (∀ j, j < i → ∀ y, xs[j]? = some y → R j y) → ¬ R i x → Ev (g i) false)
    (hgood : ∀ i x, xs[i]? = some x → i < xs.length → (∀ j, j < i → ∀ y, xs[j]? = some y → R j y) → R i x → ∀ r, Ev (g (i + 1)) r → Ev (g i) r) : EvB (g 0) ((∀ i x, xs[i]? = some x → R i x) ∧ Q) := by
  refine (EvB.loop (n := xs.length) (P := fun i => ∀ x, xs[i]? = some x → R i x) (fun h => hend (each_iff.mp h)) (fun i hi hp hn => ?_) (fun i hi hp hr r h => ?_)).iff (by rw [each_iff])
  · refine hbad i xs[i] (List.getElem?_eq_getElem hi) hi hp (fun a => hn fun x hx => ?_)
    rw [List.getElem?_eq_getElem hi] at hx
    obtain rfl := Option.some.inj hx
    exact a
  · exact hgood i xs[i] (List.getElem?_eq_getElem hi) hi hp (hr _ (List.getElem?_eq_getElem hi)) r h
theorem first_ev (xs : List τ) (R : τ → Prop) {g : Nat → Nat → Option Int} (hend : Ev (g xs.length) (-1))
    (hyes : ∀ i x, xs[i]? = some x → i < xs.length → R x → Ev (g i) (i : Int))
    (hno : ∀ i x, xs[i]? = some x → i < xs.length → ¬ R x → ∀ r, Ev (g (i + 1)) r → Ev (g i) r) : ∃ r : Int, Ev (g 0) r ∧ -1 ≤ r ∧ (r ≥ 0 ↔ ∃ x ∈ xs, R x) := by
  have key : ∀ d i, i + d = xs.length → ∃ r : Int, Ev (g i) r ∧ -1 ≤ r ∧ (r ≥ 0 ↔ ∃ x ∈ xs.drop i, R x) := by
    intro d
    induction d with
    | zero =>
      intro i hi
      obtain rfl : i = xs.length := by omega
      refine ⟨-1, hend, by omega, iff_of_false (by omega) ?_⟩
      rw [List.drop_length]
      rintro ⟨x, hx, _⟩
      cases hx
    | succ d ih =>
      intro i hi
      have hil : i < xs.length := by omega
      rw [List.drop_eq_getElem_cons hil]
      by_cases h : R xs[i]
      · exact ⟨i, hyes i xs[i] (List.getElem?_eq_getElem hil) hil h, by omega, iff_of_true (by omega) ⟨_, List.mem_cons_self, h⟩⟩
      · obtain ⟨r, h1, h2, h3⟩ := ih (i + 1) (by omega)
        refine ⟨r, hno i xs[i] (List.getElem?_eq_getElem hil) hil h r h1, h2, h3.trans ?_⟩
        constructor
        · rintro ⟨x, hx, hr⟩; exact ⟨x, List.mem_cons_of_mem _ hx, hr⟩
        · rintro ⟨x, hx, hr⟩
          rcases List.mem_cons.mp hx with a | a
          · rw [a] at hr; exact absurd hr h
          · exact ⟨x, a, hr⟩
  obtain ⟨r, h1, h2, h3⟩ := key xs.length 0 (by omega)
  exact ⟨r, h1, h2, by rw [List.drop_zero] at h3; exact h3⟩
end
end Go.Proofs.YtmljebgideecjaaGreatZ
namespace Go.Proofs.YtmljebgideecjaaGreat.P2
open Go.RowKit Go.Proofs.YtmljebgideecjaaGreatW.PrintWords Go.Proofs.YtmljebgideecjaaGreatW.PrintLast Go.Proofs.YtmljebgideecjaaGreatZ
def keyB (b : Int) : Bool := decide (0 ≤ b ∧ b ≤ 3)
def valB (c : Int) : Bool := decide (1 ≤ c ∧ c ≤ 6)
def clsB (b : Int) : Bool := decide (0 ≤ b ∧ b ≤ 2)
def opOk (a b c : Int) : Bool :=
  if a = 1 then keyB b && valB c else if a = 2 then keyB b && valB c else if a = 3 then keyB b && (c == 0) else if a = 4 then keyB b && (c == 0)
  else if a = 5 then (b == 0) && valB c else if a = 6 then clsB b && (c == 0) else if a = 7 then (b == 0) && (c == 0) else if a = 8 then (b == 0) && (c == 0) else if a = 9 then (b == 0) && (c == 0)
  else if a = 10 then (b == 0) && valB c else false
theorem in_dec (n lo hi : Int) : (if n ≥ lo then some (decide (n ≤ hi)) else some false) = some (decide (lo ≤ n ∧ n ≤ hi)) := by
  by_cases h : n ≥ lo
  · have h' : lo ≤ n := h
    simp [h, h']
  · have h' : ¬ lo ≤ n := h
    simp [h, h']
theorem specIn_eq (n lo hi : Int) : spec_l1In.f n lo hi = some (decide (lo ≤ n ∧ n ≤ hi)) := in_dec n lo hi
theorem implFrom_eq (n lo hi : Int) : impl_from.f n lo hi = some (decide (lo ≤ n ∧ n ≤ hi)) := in_dec n lo hi
theorem spec_OpOk_at (a b c : Int) (h : 1 ≤ a ∧ a ≤ 10) (k : Nat) : spec_OpOk.f (k + 1 + 1) a b c = some (opOk a b c) := by
  have h' : a = 1 ∨ a = 2 ∨ a = 3 ∨ a = 4 ∨ a = 5 ∨ a = 6 ∨ a = 7 ∨ a = 8 ∨ a = 9 ∨ a = 10 := by omega
  simp only [spec_OpOk.f, spec_OpOk.j0, spec_OpOk.j1, spec_l4Key.f, spec_l4Val.f, spec_KeyOk.f, spec_ValOk.f, specIn_eq, Option.bind_some, opOk, keyB, valB, clsB]
  generalize decide (0 ≤ b ∧ b ≤ 3) = kb
  generalize decide (1 ≤ c ∧ c ≤ 6) = vc
  generalize decide (0 ≤ b ∧ b ≤ 2) = cb
  generalize (b == 0) = b0
  generalize (c == 0) = c0
  rcases h' with rfl | rfl | rfl | rfl | rfl | rfl | rfl | rfl | rfl | rfl <;> cases kb <;> cases vc <;> cases cb <;> cases b0 <;> cases c0 <;> rfl
theorem spec_OpOk_ev (a b c : Int) : Ev (fun k => spec_OpOk.f k a b c) (opOk a b c) := by
  by_cases h : 1 ≤ a ∧ a ≤ 10
  · refine Ev.shift (Ev.shift ?_)
    simp only [spec_OpOk_at a b c h]
    exact Ev.now _
  · have : opOk a b c = false := by
      unfold opOk
      rw [if_neg (by omega), if_neg (by omega), if_neg (by omega), if_neg (by omega), if_neg (by omega), if_neg (by omega), if_neg (by omega), if_neg (by omega), if_neg (by omega), if_neg (by omega)]
    rw [this]
    simp only [spec_OpOk.f, specIn_eq, Option.bind_some, h, decide_false, Bool.false_eq_true, if_false]
    exact Ev.now _
theorem impl_OpOk_at (a b c : Int) (h : 1 ≤ a ∧ a ≤ 10) (k : Nat) : impl_OpOk.f (k + 1 + 1 + 1) a b c = some (opOk a b c) := by
  have h' : a = 1 ∨ a = 2 ∨ a = 3 ∨ a = 4 ∨ a = 5 ∨ a = 6 ∨ a = 7 ∨ a = 8 ∨ a = 9 ∨ a = 10 := by omega
  have e1 : (if b = 0 then some (c == 0) else some false) = some ((b == 0) && (c == 0)) := by by_cases hb : b = 0 <;> simp [hb]
  have e2 : (if b = 0 then some (decide (1 ≤ c ∧ c ≤ 6)) else some false) = some ((b == 0) && decide (1 ≤ c ∧ c ≤ 6)) := by by_cases hb : b = 0 <;> simp [hb]
  simp only [impl_OpOk.f, impl_OpOk.j0, impl_OpOk.j1, impl_OpOk.j2, impl_KeyOk.f, impl_ValOk.f, impl_isClass.f, implFrom_eq, Option.bind_some, opOk, keyB, valB, clsB, e1, e2]
  generalize decide (0 ≤ b ∧ b ≤ 3) = kb
  generalize decide (1 ≤ c ∧ c ≤ 6) = vc
  generalize decide (0 ≤ b ∧ b ≤ 2) = cb
  generalize (b == 0) = b0
  generalize (c == 0) = c0
  rcases h' with rfl | rfl | rfl | rfl | rfl | rfl | rfl | rfl | rfl | rfl <;> cases kb <;> cases vc <;> cases cb <;> cases b0 <;> cases c0 <;> rfl
theorem impl_OpOk_ev (a b c : Int) : Ev (fun k => impl_OpOk.f k a b c) (opOk a b c) := by
  refine Ev.shift (Ev.shift (Ev.shift ?_))
  by_cases h : 1 ≤ a ∧ a ≤ 10
  · simp only [impl_OpOk_at a b c h]
    exact Ev.now _
  · have : opOk a b c = false := by
      unfold opOk
      rw [if_neg (by omega), if_neg (by omega), if_neg (by omega), if_neg (by omega), if_neg (by omega), if_neg (by omega), if_neg (by omega), if_neg (by omega), if_neg (by omega), if_neg (by omega)]
    rw [this]
    have h1 : ¬ a = 1 := by omega
    have h2 : ¬ a = 2 := by omega
    have h3 : ¬ a = 3 := by omega
    have h4 : ¬ a = 4 := by omega
    have h5 : ¬ a = 5 := by omega
    have h6 : ¬ a = 6 := by omega
    have h7 : ¬ a = 7 := by omega
    have h8 : ¬ a = 8 := by omega
    have h9 : ¬ a = 9 := by omega
    have h10 : ¬ a = 10 := by omega
    simp only [impl_OpOk.f, impl_OpOk.j0, impl_OpOk.j1, impl_OpOk.j2, h1, h2, h3, h4, h5, h6, h7, h8, h9, h10, beq_iff_eq, if_false]
    exact Ev.now _
def i64in (n : Int) : Prop := -9223372036854775808 ≤ n ∧ n < 9223372036854775808
abbrev mW := S140
abbrev mD := S162
abbrev mE := S165
def entL : List mE → Int → Int × Int × Int × Bool
  | [], _ => (0, 0, 0, false)
  | e :: r, a => if e.f0 = a then (e.f0, e.f1, e.f2, true) else entL r a
def okE (l : List mE) : Prop := ∀ e ∈ l, i64in e.f1 ∧ i64in e.f2
theorem rdE_at {l : List mE} {i : Nat} (h : i < l.length) : rd_T165 l (i : Int) = l[i] := getD_get (List.getElem?_eq_getElem h)
theorem spec_Entries_ev (a b : Int) (l : List mE) (c : Int) (q : List Int) (v : Int) (hl : l.length ≤ 9223372036854775807) : Ev (fun k => spec_Entries.f k a b l c q v) (entL l v) := by
  simp only [spec_Entries.f]
  refine (back (n := l.length) (Q := fun i => Ev (fun k => spec_Entries.l0 k v (i : Int) a b l c q) (entL (l.drop i) v)) ?_ (fun i hi ih => ?_) 0 (Nat.zero_le _))
  · refine Ev.shift ?_
    simp only [spec_Entries.l0, Int.lt_irrefl, if_false, List.drop_length, entL]
    exact Ev.now _
  · have c0 : (0 : Int) ≤ (i : Int) := by omega
    have c1 : (i : Int) < (l.length : Int) := by omega
    refine Ev.shift ?_
    rw [List.drop_eq_getElem_cons hi]
    simp only [spec_Entries.l0, c0, c1, if_true, rdE_at hi, entL, succ64 hi hl]
    by_cases h : l[i].f0 = v
    · simp only [h, if_true]; exact Ev.now _
    · simp only [h, if_false]; exact ih
theorem impl_Entries_ev (a b : Int) (l : List mE) (c : Int) (q : List Int) (v : Int) (hl : l.length ≤ 9223372036854775807) : Ev (fun k => impl_Entries.f k a b l c q v) (entL l v) := by
  simp only [impl_Entries.f]
  refine (back (n := l.length) (Q := fun i => Ev (fun k => impl_Entries.l0 k v l (l.length : Int) (i : Int)) (entL (l.drop i) v)) ?_ (fun i hi ih => ?_) 0 (Nat.zero_le _))
  · refine Ev.shift ?_
    simp only [impl_Entries.l0, Int.lt_irrefl, if_false, List.drop_length, entL]
    exact Ev.now _
  · have c0 : (0 : Int) ≤ (i : Int) := by omega
    have c1 : (i : Int) < (l.length : Int) := by omega
    refine Ev.shift ?_
    rw [List.drop_eq_getElem_cons hi]
    simp only [impl_Entries.l0, c0, c1, if_true, rdE_at hi, entL, succ64 hi hl]
    by_cases h : l[i].f0 = v
    · simp only [h, if_true]; exact Ev.now _
    · simp only [h, if_false]; exact ih
def okWs (w : List mW) : Prop := ∀ x ∈ w, i64in x.f0
def okDs (d : List mD) : Prop := ∀ x ∈ d, x.f2.length ≤ 1048576 ∧ okE x.f2
theorem place_eq (n : Int) : impl_isPlace.f n = some (decide (0 ≤ n ∧ n ≤ 19)) := by simp only [impl_isPlace.f, implFrom_eq, Option.bind_some]
theorem wnum_eq (n : Int) : impl_isWordNum.f n = some (decide (0 ≤ n ∧ n ≤ 1000)) := by simp only [impl_isWordNum.f, implFrom_eq, Option.bind_some]
def wordP (n : Int) (w : mW) : Prop := (w.f1 = 0 ∧ w.f2 = 0 ∧ 0 ≤ w.f0 ∧ w.f0 ≤ 1000) ∨ (w.f1 ≠ 0 ∧ w.f0 = 0 ∧ (1 ≤ w.f1 ∧ w.f1 ≤ n) ∧ 1 ≤ w.f2 ∧ w.f2 ≤ 1000000)
theorem spec_WordOk_b (n : Int) (w : mW) : EvB (fun _ => spec_WordOk.f w.f0 w.f1 w.f2 n) (wordP n w) := by
  simp only [spec_WordOk.f, specIn_eq, Option.bind_some, decide_eq_true_eq]
  refine EvB.ite (fun h1 => EvB.ite (fun h2 => EvB.now ?_) (fun h2 => EvB.no (Ev.now _) ?_)) (fun h1 => EvB.ite (fun h2 => EvB.ite (fun h3 => EvB.now ?_) (fun h3 => EvB.no (Ev.now _) ?_)) (fun h2 => EvB.no (Ev.now _) ?_))
  · rw [decide_eq_true_iff]; unfold wordP; omega
  · unfold wordP; omega
  · rw [decide_eq_true_iff]; unfold wordP; omega
  · unfold wordP; omega
  · unfold wordP; omega
theorem impl_WordOk_b (n : Int) (w : mW) : EvB (fun _ => impl_WordOk.f w.f0 w.f1 w.f2 n) (wordP n w) := by
  simp only [impl_WordOk.f, wnum_eq, implFrom_eq, Option.bind_some, decide_eq_true_eq]
  refine EvB.ite (fun h1 => EvB.ite (fun h2 => EvB.now ?_) (fun h2 => EvB.no (Ev.now _) ?_)) (fun h1 => EvB.ite (fun h2 => EvB.ite (fun h3 => EvB.now ?_) (fun h3 => EvB.no (Ev.now _) ?_)) (fun h2 => EvB.no (Ev.now _) ?_))
  · rw [beq_iff_eq]; unfold wordP; omega
  · unfold wordP; omega
  · rw [decide_eq_true_iff]; unfold wordP; omega
  · unfold wordP; omega
  · unfold wordP; omega
def entP (l : List mE) (i : Nat) (e : mE) : Prop := (0 ≤ e.f0 ∧ e.f0 ≤ 19) ∧ (0 ≤ e.f1 ∧ e.f1 ≤ 1000) ∧ (0 ≤ e.f2 ∧ e.f2 ≤ 1000) ∧ (0 < i → (rd_T165 l ((i : Int) - 1)).f0 < e.f0)
def descP (a b : Int) (l : List mE) (c : Int) (q : List Int) : Prop :=
  (a = 0 ∧ b = 0 ∧ l.length = 0 ∧ c = 0 ∧ q.length = 0) ∨ (a ≠ 0 ∧ (1 ≤ a ∧ a ≤ 1000000) ∧ (1 ≤ b ∧ b ≤ 3) ∧ l.length ≤ 20 ∧ ∀ i e, l[i]? = some e → entP l i e)
theorem desc_zero {a b c : Int} {l : List mE} {q : List Int} (h : a = 0) : descP a b l c q ↔ (b = 0 ∧ l.length = 0 ∧ c = 0 ∧ q.length = 0) :=
  ⟨fun p => p.elim (fun x => x.2) (fun x => absurd h x.1), fun p => .inl ⟨h, p⟩⟩
theorem desc_some {a b c : Int} {l : List mE} {q : List Int} (h : ¬ a = 0) : descP a b l c q ↔ ((1 ≤ a ∧ a ≤ 1000000) ∧ (1 ≤ b ∧ b ≤ 3) ∧ l.length ≤ 20 ∧ ∀ i e, l[i]? = some e → entP l i e) :=
  ⟨fun p => p.elim (fun x => absurd x.1 h) (fun x => x.2), fun p => .inr ⟨h, p⟩⟩
theorem spec_DescOk_l0 (a b : Int) (l : List mE) (c : Int) (q : List Int) (hl : l.length ≤ 1048576) : EvB (fun k => spec_DescOk.l0 k 0 a b l c q) (∀ i e, l[i]? = some e → entP l i e) := by
  refine (EvB.each l (R := entP l) (Q := True) (g := fun i k => spec_DescOk.l0 k (i : Int) a b l c q) (fun _ => ?_) (fun i x hx hi hp hn => ?_) (fun i x hx hi hp hr r h => ?_)).iff (by simp)
  · refine EvB.yes (Ev.shift ?_) trivial
    simp only [spec_DescOk.l0, Int.lt_irrefl, if_false]
    exact Ev.now _
  · have c0 : (0 : Int) ≤ (i : Int) := by omega
    have c1 : (i : Int) < (l.length : Int) := by omega
    have er : rd_T165 l (i : Int) = x := getD_get hx
    refine Ev.shift ?_
    simp only [spec_DescOk.l0, c0, c1, if_true, er, specIn_eq, Option.bind_some, decide_eq_true_eq]
    by_cases h1 : 0 ≤ x.f0 ∧ x.f0 ≤ 19
    · by_cases h2 : 0 ≤ x.f1 ∧ x.f1 ≤ 1000
      · by_cases h3 : 0 ≤ x.f2 ∧ x.f2 ≤ 1000
        · by_cases h4 : (i : Int) > 0
          · have e1 : wrap64 ((i : Int) - 1) = (i : Int) - 1 := w64 (by omega) (by omega)
            have e2 : (0 : Int) ≤ (i : Int) - 1 := by omega
            have e3 : (i : Int) - 1 < (l.length : Int) := by omega
            have h5 : (rd_T165 l ((i : Int) - 1)).f0 ≥ x.f0 := by
              refine Int.not_lt.mp fun a => hn ⟨h1, h2, h3, fun _ => a⟩
            simp only [h1, h2, h3, h4, e1, e2, e3, h5, and_self, if_true]
            exact Ev.now _
          · exact absurd ⟨h1, h2, h3, fun a => absurd a (by omega)⟩ hn
        · simp only [h1, h2, h3, and_self, if_true, if_false]; exact Ev.now _
      · simp only [h1, h2, and_self, if_true, if_false]; exact Ev.now _
    · simp only [h1, if_false]; exact Ev.now _
  · have c0 : (0 : Int) ≤ (i : Int) := by omega
    have c1 : (i : Int) < (l.length : Int) := by omega
    have er : rd_T165 l (i : Int) = x := getD_get hx
    obtain ⟨h1, h2, h3, h4⟩ := hr
    refine Ev.shift ?_
    simp only [spec_DescOk.l0, c0, c1, if_true, er, specIn_eq, Option.bind_some, decide_eq_true_eq, h1, h2, h3, and_self, succ64 hi (by omega)]
    by_cases h5 : (i : Int) > 0
    · have e1 : wrap64 ((i : Int) - 1) = (i : Int) - 1 := w64 (by omega) (by omega)
      have e2 : (0 : Int) ≤ (i : Int) - 1 := by omega
      have e3 : (i : Int) - 1 < (l.length : Int) := by omega
      have h6 : ¬ (rd_T165 l ((i : Int) - 1)).f0 ≥ x.f0 := Int.not_le.mpr (h4 (by omega))
      simp only [h5, e1, e2, e3, h6, if_true, if_false]
      exact h
    · simp only [h5, if_false]
      exact h
theorem spec_DescOk_b (a b : Int) (l : List mE) (c : Int) (q : List Int) (hl : l.length ≤ 1048576) : EvB (fun k => spec_DescOk.f k a b l c q) (descP a b l c q) := by
  simp only [spec_DescOk.f, specIn_eq, Option.bind_some, decide_eq_true_eq]
  refine EvB.ite (fun h0 => ?_) (fun h0 => ?_)
  · refine EvB.iff ?_ (desc_zero h0).symm
    refine EvB.ite (fun h1 => EvB.ite (fun h2 => EvB.ite (fun h3 => EvB.now ?_) (fun h3 => EvB.no (Ev.now _) ?_)) (fun h2 => EvB.no (Ev.now _) ?_)) (fun h1 => EvB.no (Ev.now _) ?_)
    · rw [beq_iff_eq]; omega
    · omega
    · omega
    · omega
  · refine EvB.iff ?_ (desc_some h0).symm
    have bad : ∀ z, ¬ ((1 ≤ a ∧ a ≤ 1000000) ∧ (1 ≤ b ∧ b ≤ 3) ∧ l.length ≤ 20) ∨ z → z → True := fun _ _ _ => trivial
    refine EvB.ite (fun h1 => EvB.ite (fun h2 => ?_) (fun h2 => EvB.no (Ev.shift ?_) (fun p => h2 p.2.1))) (fun h1 => EvB.no (Ev.shift ?_) (fun p => h1 p.1))
    · by_cases h3 : (l.length : Int) > 20
      · refine EvB.no (Ev.shift ?_) (fun p => absurd p.2.2.1 (by omega))
        simp only [spec_DescOk.j0, h3, decide_true, if_true]
        exact Ev.now _
      · refine EvB.shift ?_
        simp only [spec_DescOk.j0, h3, decide_false, Bool.false_eq_true, if_false]
        exact (spec_DescOk_l0 a b l c q hl).iff ⟨fun p => ⟨h1, h2, by omega, p⟩, fun p => p.2.2.2⟩
    · simp only [spec_DescOk.j0, if_true]; exact Ev.now _
    · simp only [spec_DescOk.j0, if_true]; exact Ev.now _
theorem impl_DescOk_b (a b : Int) (l : List mE) (c : Int) (q : List Int) (hl : l.length ≤ 1048576) : EvB (fun k => impl_DescOk.f k a b l c q) (descP a b l c q) := by
  simp only [impl_DescOk.f]
  refine EvB.ite (fun h0 => ?_) (fun h0 => ?_)
  · refine EvB.iff ?_ (desc_zero h0).symm
    refine EvB.ite (fun h1 => EvB.ite (fun h2 => EvB.ite (fun h3 => EvB.now ?_) (fun h3 => EvB.no (Ev.now _) ?_)) (fun h2 => EvB.no (Ev.now _) ?_)) (fun h1 => EvB.no (Ev.now _) ?_)
    · rw [beq_iff_eq]; omega
    · omega
    · omega
    · omega
  · refine EvB.iff ?_ (desc_some h0).symm
    refine (EvB.each l (R := entP l) (Q := (1 ≤ a ∧ a ≤ 1000000) ∧ (1 ≤ b ∧ b ≤ 3) ∧ l.length ≤ 20) (g := fun i k => impl_DescOk.l0 k l (l.length : Int) (i : Int) a b l c q) (fun _ => ?_) (fun i x hx hi hp hn => ?_) (fun i x hx hi hp hr r h => ?_)).iff ⟨fun p => ⟨p.2.1, p.2.2.1, p.2.2.2, p.1⟩, fun p => ⟨p.2.2.2, p.1, p.2.1, p.2.2.1⟩⟩
    · refine EvB.shift ?_
      simp only [impl_DescOk.l0, Int.lt_irrefl, if_false, implFrom_eq, Option.bind_some, decide_eq_true_eq]
      refine EvB.ite (fun h1 => EvB.ite (fun h2 => EvB.now ?_) (fun h2 => EvB.no (Ev.now _) (fun p => h2 p.2.1))) (fun h1 => EvB.no (Ev.now _) (fun p => h1 p.1))
      rw [decide_eq_true_iff]
      exact ⟨fun p => ⟨h1, h2, by omega⟩, fun p => by omega⟩
    · have c0 : (0 : Int) ≤ (i : Int) := by omega
      have c1 : (i : Int) < (l.length : Int) := by omega
      have er : rd_T165 l (i : Int) = x := getD_get hx
      refine Ev.shift ?_
      simp only [impl_DescOk.l0, c0, c1, if_true, er, place_eq, wnum_eq, Option.bind_some, decide_eq_true_eq]
      by_cases h1 : 0 ≤ x.f0 ∧ x.f0 ≤ 19
      · by_cases h2 : 0 ≤ x.f1 ∧ x.f1 ≤ 1000
        · by_cases h3 : 0 ≤ x.f2 ∧ x.f2 ≤ 1000
          · by_cases h4 : (i : Int) > 0
            · have e1 : wrap64 ((i : Int) - 1) = (i : Int) - 1 := w64 (by omega) (by omega)
              have e2 : (0 : Int) ≤ (i : Int) - 1 := by omega
              have e3 : (i : Int) - 1 < (l.length : Int) := by omega
              have h5 : (rd_T165 l ((i : Int) - 1)).f0 ≥ x.f0 := by
                refine Int.not_lt.mp fun a => hn ⟨h1, h2, h3, fun _ => a⟩
              simp only [h1, h2, h3, h4, e1, e2, e3, h5, and_self, if_true]
              exact Ev.now _
            · exact absurd ⟨h1, h2, h3, fun a => absurd a (by omega)⟩ hn
          · simp only [h1, h2, h3, and_self, if_true, if_false]; exact Ev.now _
        · simp only [h1, h2, and_self, if_true, if_false]; exact Ev.now _
      · simp only [h1, if_false]; exact Ev.now _
    · have c0 : (0 : Int) ≤ (i : Int) := by omega
      have c1 : (i : Int) < (l.length : Int) := by omega
      have er : rd_T165 l (i : Int) = x := getD_get hx
      obtain ⟨h1, h2, h3, h4⟩ := hr
      refine Ev.shift ?_
      simp only [impl_DescOk.l0, c0, c1, if_true, er, place_eq, wnum_eq, Option.bind_some, decide_eq_true_eq, h1, h2, h3, and_self, succ64 hi (by omega)]
      by_cases h5 : (i : Int) > 0
      · have e1 : wrap64 ((i : Int) - 1) = (i : Int) - 1 := w64 (by omega) (by omega)
        have e2 : (0 : Int) ≤ (i : Int) - 1 := by omega
        have e3 : (i : Int) - 1 < (l.length : Int) := by omega
        have h6 : ¬ (rd_T165 l ((i : Int) - 1)).f0 ≥ x.f0 := Int.not_le.mpr (h4 (by omega))
        simp only [h5, e1, e2, e3, h6, if_true, if_false]
        exact h
      · simp only [h5, if_false]
        exact h
def dP (x : mD) : Prop := descP x.f0 x.f1 x.f2 x.f3.f0 x.f3.f1
def smD (d : List mD) : Prop := ∀ x ∈ d, x.f2.length ≤ 1048576
def markP (d : List mD) (i : Nat) (x : mW) : Prop := wordP d.length x ∧ (x.f1 = 0 ∨ ((entL (rd_T162 d (x.f1 - 1)).f2 (i : Int)).2.2.2 = true ∧ (rd_T162 d (x.f1 - 1)).f0 = x.f2))
def memP (w : List mW) (d : List mD) : Prop := (w.length = 20 ∧ 1 ≤ d.length ∧ d.length ≤ 4) ∧ (∀ x ∈ d, dP x) ∧ ∀ i x, w[i]? = some x → markP d i x
theorem spec_marks_b (w : List mW) (d : List mD) (hw : w.length ≤ 1048576) (hd : d.length ≤ 1048576) (sd : smD d) : EvB (fun k => spec_MemOk.l1 k 0 w d) (∀ i x, w[i]? = some x → markP d i x) := by
  refine (EvB.each w (R := markP d) (Q := True) (g := fun i k => spec_MemOk.l1 k (i : Int) w d) (fun _ => ?_) (fun i x hx hi hp hn => ?_) (fun i x hx hi hp hr r h => ?_)).iff (by simp)
  · refine EvB.yes (Ev.shift ?_) trivial
    simp only [spec_MemOk.l1, Int.lt_irrefl, if_false]
    exact Ev.now _
  · have c0 : (0 : Int) ≤ (i : Int) := by omega
    have c1 : (i : Int) < (w.length : Int) := by omega
    have er : rd_T140 w (i : Int) = x := getD_get hx
    refine Ev.shift ?_
    simp only [spec_MemOk.l1, c0, c1, if_true, er]
    refine EvB.then_ (spec_WordOk_b d.length x) (fun hwp => ?_) (fun hwp => Ev.neg (by decide) (Ev.now _))
    refine Ev.pos rfl ?_
    by_cases hz : x.f1 = 0
    · exact absurd ⟨hwp, .inl hz⟩ hn
    · obtain ⟨b1, b2⟩ : 1 ≤ x.f1 ∧ x.f1 ≤ (d.length : Int) := by unfold wordP at hwp; omega
      have e1 : wrap64 (x.f1 - 1) = x.f1 - 1 := w64 (by omega) (by omega)
      have e2 : (0 : Int) ≤ x.f1 - 1 := by omega
      have e3 : x.f1 - 1 < (d.length : Int) := by omega
      have e4 : x.f1 > 0 := by omega
      have e5 : (rd_T162 d (x.f1 - 1)).f2.length ≤ 1048576 := by
        obtain ⟨j, hj⟩ : ∃ j : Nat, x.f1 - 1 = (j : Int) := ⟨(x.f1 - 1).toNat, by omega⟩
        have hjl : j < d.length := by omega
        rw [hj, show rd_T162 d (j : Int) = d[j] from getD_get (List.getElem?_eq_getElem hjl)]
        exact sd _ (List.getElem_mem hjl)
      simp only [e4, e1, e2, e3, if_true]
      refine Ev.bind (spec_Entries_ev _ _ _ _ _ (i : Int) (by omega)) ?_
      by_cases g1 : (entL (rd_T162 d (x.f1 - 1)).f2 (i : Int)).2.2.2 = true
      · refine Ev.pos g1 (Ev.neg (fun g2 => hn ⟨hwp, .inr ⟨g1, g2⟩⟩) (Ev.now _))
      · exact Ev.neg g1 (Ev.now _)
  · have c0 : (0 : Int) ≤ (i : Int) := by omega
    have c1 : (i : Int) < (w.length : Int) := by omega
    have er : rd_T140 w (i : Int) = x := getD_get hx
    obtain ⟨hwp, hm⟩ := hr
    refine Ev.shift ?_
    simp only [spec_MemOk.l1, c0, c1, if_true, er, succ64 hi (by omega)]
    refine Ev.bind ((spec_WordOk_b d.length x).val hwp) (Ev.pos rfl ?_)
    rcases hm with hz | ⟨g1, g2⟩
    · exact Ev.neg (by omega) h
    · by_cases hz : x.f1 = 0
      · exact Ev.neg (by omega) h
      · obtain ⟨b1, b2⟩ : 1 ≤ x.f1 ∧ x.f1 ≤ (d.length : Int) := by unfold wordP at hwp; omega
        have e1 : wrap64 (x.f1 - 1) = x.f1 - 1 := w64 (by omega) (by omega)
        have e2 : (0 : Int) ≤ x.f1 - 1 := by omega
        have e3 : x.f1 - 1 < (d.length : Int) := by omega
        have e4 : x.f1 > 0 := by omega
        have e5 : (rd_T162 d (x.f1 - 1)).f2.length ≤ 1048576 := by
          obtain ⟨j, hj⟩ : ∃ j : Nat, x.f1 - 1 = (j : Int) := ⟨(x.f1 - 1).toNat, by omega⟩
          have hjl : j < d.length := by omega
          rw [hj, show rd_T162 d (j : Int) = d[j] from getD_get (List.getElem?_eq_getElem hjl)]
          exact sd _ (List.getElem_mem hjl)
        simp only [e4, e1, e2, e3, if_true]
        exact Ev.bind (spec_Entries_ev _ _ _ _ _ (i : Int) (by omega)) (Ev.pos g1 (Ev.pos g2 h))
theorem impl_marks_b (w : List mW) (d : List mD) (hw : w.length ≤ 1048576) (hd : d.length ≤ 1048576) (sd : smD d) : EvB (fun k => impl_MemOk.l0 k w (w.length : Int) 0 w d) (∀ i x, w[i]? = some x → markP d i x) := by
  refine (EvB.each w (R := markP d) (Q := True) (g := fun i k => impl_MemOk.l0 k w (w.length : Int) (i : Int) w d) (fun _ => ?_) (fun i x hx hi hp hn => ?_) (fun i x hx hi hp hr r h => ?_)).iff (by simp)
  · refine EvB.yes (Ev.shift ?_) trivial
    simp only [impl_MemOk.l0, Int.lt_irrefl, if_false]
    exact Ev.now _
  · have c0 : (0 : Int) ≤ (i : Int) := by omega
    have c1 : (i : Int) < (w.length : Int) := by omega
    have er : rd_T140 w (i : Int) = x := getD_get hx
    refine Ev.shift ?_
    simp only [impl_MemOk.l0, c0, c1, if_true, er]
    refine EvB.then_ (impl_WordOk_b d.length x) (fun hwp => ?_) (fun hwp => Ev.neg (by decide) (Ev.now _))
    refine Ev.pos rfl ?_
    by_cases hz : x.f1 = 0
    · exact absurd ⟨hwp, .inl hz⟩ hn
    · obtain ⟨b1, b2⟩ : 1 ≤ x.f1 ∧ x.f1 ≤ (d.length : Int) := by unfold wordP at hwp; omega
      have e1 : wrap64 (x.f1 - 1) = x.f1 - 1 := w64 (by omega) (by omega)
      have e2 : (0 : Int) ≤ x.f1 - 1 := by omega
      have e3 : x.f1 - 1 < (d.length : Int) := by omega
      have e5 : (rd_T162 d (x.f1 - 1)).f2.length ≤ 1048576 := by
        obtain ⟨j, hj⟩ : ∃ j : Nat, x.f1 - 1 = (j : Int) := ⟨(x.f1 - 1).toNat, by omega⟩
        have hjl : j < d.length := by omega
        rw [hj, show rd_T162 d (j : Int) = d[j] from getD_get (List.getElem?_eq_getElem hjl)]
        exact sd _ (List.getElem_mem hjl)
      simp only [hz, e1, e2, e3, if_true, if_false]
      refine Ev.bind (impl_Entries_ev _ _ _ _ _ (i : Int) (by omega)) ?_
      by_cases g1 : (entL (rd_T162 d (x.f1 - 1)).f2 (i : Int)).2.2.2 = true
      · refine Ev.pos g1 (Ev.neg (fun g2 => hn ⟨hwp, .inr ⟨g1, g2⟩⟩) (Ev.now _))
      · exact Ev.neg g1 (Ev.now _)
  · have c0 : (0 : Int) ≤ (i : Int) := by omega
    have c1 : (i : Int) < (w.length : Int) := by omega
    have er : rd_T140 w (i : Int) = x := getD_get hx
    obtain ⟨hwp, hm⟩ := hr
    refine Ev.shift ?_
    simp only [impl_MemOk.l0, c0, c1, if_true, er, succ64 hi (by omega)]
    refine Ev.bind ((impl_WordOk_b d.length x).val hwp) (Ev.pos rfl ?_)
    rcases hm with hz | ⟨g1, g2⟩
    · exact Ev.pos hz h
    · by_cases hz : x.f1 = 0
      · exact Ev.pos hz h
      · obtain ⟨b1, b2⟩ : 1 ≤ x.f1 ∧ x.f1 ≤ (d.length : Int) := by unfold wordP at hwp; omega
        have e1 : wrap64 (x.f1 - 1) = x.f1 - 1 := w64 (by omega) (by omega)
        have e2 : (0 : Int) ≤ x.f1 - 1 := by omega
        have e3 : x.f1 - 1 < (d.length : Int) := by omega
        have e5 : (rd_T162 d (x.f1 - 1)).f2.length ≤ 1048576 := by
          obtain ⟨j, hj⟩ : ∃ j : Nat, x.f1 - 1 = (j : Int) := ⟨(x.f1 - 1).toNat, by omega⟩
          have hjl : j < d.length := by omega
          rw [hj, show rd_T162 d (j : Int) = d[j] from getD_get (List.getElem?_eq_getElem hjl)]
          exact sd _ (List.getElem_mem hjl)
        simp only [hz, e1, e2, e3, if_true, if_false]
        exact Ev.bind (impl_Entries_ev _ _ _ _ _ (i : Int) (by omega)) (Ev.pos g1 (Ev.pos g2 h))
theorem spec_MemOk_b (w : List mW) (d : List mD) (hw : w.length ≤ 1048576) (hd : d.length ≤ 1048576) (sd : smD d) : EvB (fun k => spec_MemOk.f k w d) (memP w d) := by
  simp only [spec_MemOk.f, specIn_eq, Option.bind_some]
  refine EvB.ite (fun h0 => ?_) (fun h0 => EvB.no (Ev.shift (by simp only [spec_MemOk.j0, if_true]; exact Ev.now _)) (fun p => absurd p.1.1 (by omega)))
  by_cases h1 : 1 ≤ (d.length : Int) ∧ (d.length : Int) ≤ 4
  · refine EvB.shift ?_
    simp only [h1, and_self, decide_true, Bool.not_true, spec_MemOk.j0, Bool.false_eq_true, if_false]
    refine (EvB.each d (R := fun _ x => dP x) (Q := ∀ i x, w[i]? = some x → markP d i x) (g := fun i k => spec_MemOk.l0 k (i : Int) w d) (fun _ => ?_) (fun i x hx hi hp hn => ?_) (fun i x hx hi hp hr r h => ?_)).iff ?_
    · refine EvB.shift ?_
      simp only [spec_MemOk.l0, Int.lt_irrefl, if_false]
      exact spec_marks_b w d hw hd sd
    · have c0 : (0 : Int) ≤ (i : Int) := by omega
      have c1 : (i : Int) < (d.length : Int) := by omega
      have er : rd_T162 d (i : Int) = x := getD_get hx
      refine Ev.shift ?_
      simp only [spec_MemOk.l0, c0, c1, if_true, er]
      exact Ev.bind ((spec_DescOk_b _ _ _ _ _ (sd x (List.mem_of_getElem? hx))).nval hn) (Ev.neg (by decide) (Ev.now _))
    · have c0 : (0 : Int) ≤ (i : Int) := by omega
      have c1 : (i : Int) < (d.length : Int) := by omega
      have er : rd_T162 d (i : Int) = x := getD_get hx
      refine Ev.shift ?_
      simp only [spec_MemOk.l0, c0, c1, if_true, er, succ64 hi (by omega)]
      exact Ev.bind ((spec_DescOk_b _ _ _ _ _ (sd x (List.mem_of_getElem? hx))).val hr) (Ev.pos rfl h)
    · rw [each_mem]
      exact ⟨fun p => ⟨⟨by omega, by omega, by omega⟩, p⟩, fun p => p.2⟩
  · refine EvB.no (Ev.shift ?_) (fun p => h1 (by have := p.1.2; omega))
    simp only [h1, decide_false, Bool.not_false, spec_MemOk.j0, if_true]
    exact Ev.now _
theorem impl_MemOk_b (w : List mW) (d : List mD) (hw : w.length ≤ 1048576) (hd : d.length ≤ 1048576) (sd : smD d) : EvB (fun k => impl_MemOk.f k w d) (memP w d) := by
  simp only [impl_MemOk.f, implFrom_eq, Option.bind_some, decide_eq_true_eq]
  have bad : Ev (fun k => impl_MemOk.j0 k true w d) false := Ev.shift (by simp only [impl_MemOk.j0, if_true]; exact Ev.now _)
  refine EvB.ite (fun h0 => ?_) (fun h0 => EvB.no bad (fun p => absurd p.1.1 (by omega)))
  refine EvB.ite (fun h1 => ?_) (fun h1 => EvB.no bad (fun p => h1 (by have := p.1.2; omega)))
  obtain ⟨r, q1, q2, q3⟩ := first_ev d (fun x => ¬ dP x) (g := fun i k => impl_Desc_208_170.l0 k d (d.length : Int) (i : Int)) (by
    refine Ev.shift ?_
    simp only [impl_Desc_208_170.l0, Int.lt_irrefl, if_false]
    exact Ev.now _) (fun i x hx hi hn => by
    have c0 : (0 : Int) ≤ (i : Int) := by omega
    have c1 : (i : Int) < (d.length : Int) := by omega
    have er : rd_T162 d (i : Int) = x := getD_get hx
    refine Ev.shift ?_
    simp only [impl_Desc_208_170.l0, c0, c1, if_true, er, impl_MemOk_1.f]
    exact Ev.bind (Ev.bind ((impl_DescOk_b _ _ _ _ _ (sd x (List.mem_of_getElem? hx))).nval hn) (Ev.now _)) (Ev.pos rfl (Ev.now _))) (fun i x hx hi hn r h => by
    have c0 : (0 : Int) ≤ (i : Int) := by omega
    have c1 : (i : Int) < (d.length : Int) := by omega
    have er : rd_T162 d (i : Int) = x := getD_get hx
    refine Ev.shift ?_
    simp only [impl_Desc_208_170.l0, c0, c1, if_true, er, impl_MemOk_1.f, succ64 hi (by omega)]
    exact Ev.bind (Ev.bind ((impl_DescOk_b _ _ _ _ _ (sd x (List.mem_of_getElem? hx))).val (Classical.not_not.mp hn)) (Ev.now _)) (Ev.neg (by decide) h))
  have q4 : (∀ x ∈ d, dP x) ↔ ¬ r ≥ 0 := by
    rw [q3]
    exact ⟨fun p ⟨x, hx, hn⟩ => hn (p x hx), fun p x hx => Classical.byContradiction fun hn => p ⟨x, hx, hn⟩⟩
  have hf : Ev (fun k => impl_Desc_169_170.f k d) (decide (r ≥ 0)) := by
    simp only [impl_Desc_169_170.f, impl_Desc_208_170.f]
    exact Ev.bind q1 (Ev.now _)
  refine EvB.at hf ?_
  by_cases h2 : r ≥ 0
  · refine EvB.no ?_ (fun p => q4.mp p.2.1 h2)
    simp only [h2, decide_true]
    exact bad
  · refine EvB.shift ?_
    simp only [h2, decide_false, impl_MemOk.j0, Bool.false_eq_true, if_false]
    exact (impl_marks_b w d hw hd sd).iff ⟨fun p => ⟨⟨by omega, by omega, by omega⟩, q4.mpr h2, p⟩, fun p => p.2.2⟩
abbrev mO := S69
abbrev mP := S172
abbrev mH := S174
abbrev mT := S97
def opP (x : mO) : Prop := opOk x.f0 x.f1 x.f2 = true
def pairP (x : mP) : Prop := (0 ≤ x.f0 ∧ x.f0 ≤ 19) ∧ (0 ≤ x.f1 ∧ x.f1 ≤ 1000)
def helpP (n : Int) (x : mH) : Prop := (0 ≤ x.f0 ∧ x.f0 < n) ∧ (1 ≤ x.f1 ∧ x.f1 ≤ 1000000) ∧ (0 ≤ x.f2 ∧ x.f2 ≤ 20) ∧ (0 ≤ x.f3 ∧ x.f3 ≤ 20)
def thrN (x : mT) : Prop := x.f0.length ≤ 8 ∧ (0 ≤ x.f1 ∧ x.f1 ≤ x.f0.length) ∧ (x.f2 = true → x.f1 < x.f0.length) ∧ (x.f2 = false → x.f3.length = 0 ∧ x.f4.length = 0) ∧ x.f3.length ≤ 12 ∧ x.f4.length ≤ 2
def thrP (n : Int) (x : mT) : Prop := thrN x ∧ (∀ y ∈ x.f0, opP y) ∧ (∀ y ∈ x.f3, pairP y) ∧ (∀ y ∈ x.f4, helpP n y)
def smT (x : mT) : Prop := x.f0.length ≤ 1048576 ∧ x.f3.length ≤ 1048576 ∧ x.f4.length ≤ 1048576
theorem specThr_l2 (n : Int) (x : mT) (h : smT x) : EvB (fun k => spec_ThreadOk.l2 k n 0 x.f0 x.f1 x.f2 x.f3 x.f4) (∀ y ∈ x.f4, helpP n y) := by
  refine (EvB.each x.f4 (R := fun _ y => helpP n y) (Q := True) (g := fun i k => spec_ThreadOk.l2 k n (i : Int) x.f0 x.f1 x.f2 x.f3 x.f4) (fun _ => ?_) (fun i y hx hi hp hn => ?_) (fun i y hx hi hp hr r g => ?_)).iff (by rw [each_mem, and_true])
  · refine EvB.yes (Ev.shift ?_) trivial
    simp only [spec_ThreadOk.l2, Int.lt_irrefl, if_false]
    exact Ev.now _
  · have c0 : (0 : Int) ≤ (i : Int) := by omega
    have c1 : (i : Int) < (x.f4.length : Int) := by omega
    have er : rd_T174 x.f4 (i : Int) = y := getD_get hx
    refine Ev.shift ?_
    simp only [spec_ThreadOk.l2, c0, c1, if_true, er, specIn_eq, Option.bind_some, decide_eq_true_eq]
    by_cases h1 : y.f0 < 0
    · exact Ev.pos h1 (Ev.now _)
    · refine Ev.neg h1 ?_
      by_cases h2 : y.f0 ≥ n
      · exact Ev.pos h2 (Ev.now _)
      · refine Ev.neg h2 ?_
        by_cases h3 : 1 ≤ y.f1 ∧ y.f1 ≤ 1000000
        · refine Ev.pos h3 ?_
          by_cases h4 : 0 ≤ y.f2 ∧ y.f2 ≤ 20
          · refine Ev.pos h4 (Ev.neg (fun h5 => hn ⟨by omega, h3, h4, h5⟩) (Ev.now _))
          · exact Ev.neg h4 (Ev.now _)
        · exact Ev.neg h3 (Ev.now _)
  · have c0 : (0 : Int) ≤ (i : Int) := by omega
    have c1 : (i : Int) < (x.f4.length : Int) := by omega
    have er : rd_T174 x.f4 (i : Int) = y := getD_get hx
    have := h.2.2
    obtain ⟨h1, h3, h4, h5⟩ := hr
    refine Ev.shift ?_
    simp only [spec_ThreadOk.l2, c0, c1, if_true, er, specIn_eq, Option.bind_some, decide_eq_true_eq, succ64 hi (by omega)]
    exact Ev.neg (by omega) (Ev.neg (by omega) (Ev.pos h3 (Ev.pos h4 (Ev.pos h5 g))))
theorem specThr_l1 (n : Int) (x : mT) (h : smT x) : EvB (fun k => spec_ThreadOk.l1 k n 0 x.f0 x.f1 x.f2 x.f3 x.f4) ((∀ y ∈ x.f3, pairP y) ∧ ∀ y ∈ x.f4, helpP n y) := by
  refine (EvB.each x.f3 (R := fun _ y => pairP y) (Q := ∀ y ∈ x.f4, helpP n y) (g := fun i k => spec_ThreadOk.l1 k n (i : Int) x.f0 x.f1 x.f2 x.f3 x.f4) (fun _ => ?_) (fun i y hx hi hp hn => ?_) (fun i y hx hi hp hr r g => ?_)).iff (by rw [each_mem])
  · refine EvB.shift ?_
    simp only [spec_ThreadOk.l1, Int.lt_irrefl, if_false]
    exact specThr_l2 n x h
  · have c0 : (0 : Int) ≤ (i : Int) := by omega
    have c1 : (i : Int) < (x.f3.length : Int) := by omega
    have er : rd_T172 x.f3 (i : Int) = y := getD_get hx
    refine Ev.shift ?_
    simp only [spec_ThreadOk.l1, c0, c1, if_true, er, specIn_eq, Option.bind_some, decide_eq_true_eq]
    by_cases h3 : 0 ≤ y.f0 ∧ y.f0 ≤ 19
    · exact Ev.pos h3 (Ev.neg (fun h5 => hn ⟨h3, h5⟩) (Ev.now _))
    · exact Ev.neg h3 (Ev.now _)
  · have c0 : (0 : Int) ≤ (i : Int) := by omega
    have c1 : (i : Int) < (x.f3.length : Int) := by omega
    have er : rd_T172 x.f3 (i : Int) = y := getD_get hx
    have := h.2.1
    refine Ev.shift ?_
    simp only [spec_ThreadOk.l1, c0, c1, if_true, er, specIn_eq, Option.bind_some, decide_eq_true_eq, succ64 hi (by omega)]
    exact Ev.pos hr.1 (Ev.pos hr.2 g)
theorem specThr_l0 (n : Int) (x : mT) (h : smT x) : EvB (fun k => spec_ThreadOk.l0 k n 0 x.f0 x.f1 x.f2 x.f3 x.f4) ((∀ y ∈ x.f0, opP y) ∧ (∀ y ∈ x.f3, pairP y) ∧ ∀ y ∈ x.f4, helpP n y) := by
  refine (EvB.each x.f0 (R := fun _ y => opP y) (Q := (∀ y ∈ x.f3, pairP y) ∧ ∀ y ∈ x.f4, helpP n y) (g := fun i k => spec_ThreadOk.l0 k n (i : Int) x.f0 x.f1 x.f2 x.f3 x.f4) (fun _ => ?_) (fun i y hx hi hp hn => ?_) (fun i y hx hi hp hr r g => ?_)).iff (by rw [each_mem])
  · refine EvB.shift ?_
    simp only [spec_ThreadOk.l0, Int.lt_irrefl, if_false]
    exact specThr_l1 n x h
  · have c0 : (0 : Int) ≤ (i : Int) := by omega
    have c1 : (i : Int) < (x.f0.length : Int) := by omega
    have er : rd_T69 x.f0 (i : Int) = y := getD_get hx
    refine Ev.shift ?_
    simp only [spec_ThreadOk.l0, c0, c1, if_true, er]
    exact Ev.bind (spec_OpOk_ev _ _ _) (Ev.neg hn (Ev.now _))
  · have c0 : (0 : Int) ≤ (i : Int) := by omega
    have c1 : (i : Int) < (x.f0.length : Int) := by omega
    have er : rd_T69 x.f0 (i : Int) = y := getD_get hx
    have := h.1
    refine Ev.shift ?_
    simp only [spec_ThreadOk.l0, c0, c1, if_true, er, succ64 hi (by omega)]
    exact Ev.bind (spec_OpOk_ev _ _ _) (Ev.pos hr g)
theorem spec_ThreadOk_b (n : Int) (x : mT) (h : smT x) : EvB (fun k => spec_ThreadOk.f k x.f0 x.f1 x.f2 x.f3 x.f4 n) (thrP n x) := by
  have hb := h
  obtain ⟨s1, s2, s3⟩ := h
  have bad : Ev (fun k => spec_ThreadOk.j0 k n true x.f0 x.f1 x.f2 x.f3 x.f4) false := Ev.shift (by simp only [spec_ThreadOk.j0, if_true]; exact Ev.now _)
  have good : thrN x → EvB (fun k => spec_ThreadOk.j0 k n false x.f0 x.f1 x.f2 x.f3 x.f4) (thrP n x) := fun hn => by
    refine EvB.shift ?_
    simp only [spec_ThreadOk.j0, Bool.false_eq_true, if_false]
    exact (specThr_l0 n x hb).iff ⟨fun p => ⟨hn, p⟩, fun p => p.2⟩
  have hww : wrap64 ((x.f3.length : Int) + (x.f4.length : Int)) = (x.f3.length : Int) + (x.f4.length : Int) := w64 (by omega) (by omega)
  simp only [spec_ThreadOk.f, specIn_eq, Option.bind_some, decide_eq_true_eq, hww]
  refine EvB.ite (fun h1 => EvB.no bad (fun p => absurd p.1.1 (by omega))) (fun h1 => EvB.ite (fun h2 => ?_) (fun h2 => EvB.no bad (fun p => h2 p.1.2.1)))
  refine EvB.ite (fun h3 => EvB.ite (fun h4 => EvB.no bad (fun p => absurd (p.1.2.2.1 h3) (by omega))) (fun h4 => EvB.ite (fun h5 => EvB.no bad (fun p => absurd p.1.2.2.2.2.1 (by omega))) (fun h5 => ?_)))
    (fun h3 => EvB.ite (fun h4 => EvB.no bad (fun p => absurd (p.1.2.2.2.1 (by simpa using h3)) (by omega))) (fun h4 => EvB.ite (fun h5 => EvB.no bad (fun p => absurd p.1.2.2.2.2.1 (by omega))) (fun h5 => ?_)))
  · by_cases h6 : (x.f4.length : Int) > 2
    · simp only [h6, decide_true]
      exact EvB.no bad (fun p => absurd p.1.2.2.2.2.2 (by omega))
    · simp only [h6, decide_false]
      exact good ⟨by omega, h2, fun _ => by omega, fun a => (by rw [h3] at a; cases a), by omega, by omega⟩
  · by_cases h6 : (x.f4.length : Int) > 2
    · simp only [h6, decide_true]
      exact EvB.no bad (fun p => absurd p.1.2.2.2.2.2 (by omega))
    · simp only [h6, decide_false]
      exact good ⟨by omega, h2, fun a => absurd a h3, fun _ => by omega, by omega, by omega⟩
theorem implThr_ops (l : List mO) (hl : l.length ≤ 1048576) : EvB (fun k => impl_Op_178_179.f k l) (∃ y ∈ l, ¬ opP y) := by
  obtain ⟨r, q1, q2, q3⟩ := first_ev l (fun x => ¬ opP x) (g := fun i k => impl_Op_210_179.l0 k l (l.length : Int) (i : Int)) (by
    refine Ev.shift ?_
    simp only [impl_Op_210_179.l0, Int.lt_irrefl, if_false]
    exact Ev.now _) (fun i x hx hi hn => by
    have c0 : (0 : Int) ≤ (i : Int) := by omega
    have c1 : (i : Int) < (l.length : Int) := by omega
    have er : rd_T69 l (i : Int) = x := getD_get hx
    have e : opOk x.f0 x.f1 x.f2 = false := by unfold opP at hn; simpa using hn
    refine Ev.shift ?_
    simp only [impl_Op_210_179.l0, c0, c1, if_true, er, impl_ThreadOk_1.f]
    exact Ev.bind (Ev.bind ((impl_OpOk_ev _ _ _).to e) (Ev.now _)) (Ev.pos rfl (Ev.now _))) (fun i x hx hi hn r h => by
    have c0 : (0 : Int) ≤ (i : Int) := by omega
    have c1 : (i : Int) < (l.length : Int) := by omega
    have er : rd_T69 l (i : Int) = x := getD_get hx
    refine Ev.shift ?_
    simp only [impl_Op_210_179.l0, c0, c1, if_true, er, impl_ThreadOk_1.f, succ64 hi (by omega)]
    exact Ev.bind (Ev.bind ((impl_OpOk_ev _ _ _).to (Classical.not_not.mp hn)) (Ev.now _)) (Ev.neg (by decide) h))
  refine ⟨decide (r ≥ 0), ?_, by rw [decide_eq_true_iff]; exact q3⟩
  simp only [impl_Op_178_179.f, impl_Op_210_179.f]
  exact Ev.bind q1 (Ev.now _)
theorem pair_eq (x : mP) : EvB (fun _ => impl_ThreadOk_2.f x.f0 x.f1) (¬ pairP x) := by
  simp only [impl_ThreadOk_2.f, place_eq, wnum_eq, Option.bind_some, decide_eq_true_eq]
  refine EvB.ite (fun h1 => EvB.now ?_) (fun h1 => EvB.yes (Ev.now _) (fun p => h1 p.1))
  by_cases h2 : 0 ≤ x.f1 ∧ x.f1 ≤ 1000
  · simp only [h2, and_self, decide_true, Bool.not_true]; exact iff_of_false (by decide) (fun a => a ⟨h1, h2⟩)
  · simp only [h2, decide_false, Bool.not_false]; exact iff_of_true trivial (fun a => h2 a.2)
theorem help_eq (n : Int) (x : mH) (hn : 0 ≤ n ∧ n ≤ 1048576) : EvB (fun _ => impl_ThreadOk_3.f x.f0 x.f1 x.f2 x.f3 n) (¬ helpP n x) := by
  have hww : wrap64 (n - 1) = n - 1 := w64 (by omega) (by omega)
  simp only [impl_ThreadOk_3.f, implFrom_eq, hww, Option.bind_some, decide_eq_true_eq]
  refine EvB.ite (fun h1 => EvB.ite (fun h2 => EvB.ite (fun h3 => EvB.now ?_) (fun h3 => EvB.yes (Ev.now _) (fun p => h3 p.2.2.1))) (fun h2 => EvB.yes (Ev.now _) (fun p => h2 p.2.1))) (fun h1 => EvB.yes (Ev.now _) (fun p => h1 (by have := p.1; omega)))
  by_cases h4 : 0 ≤ x.f3 ∧ x.f3 ≤ 20
  · simp only [h4, and_self, decide_true, Bool.not_true]; exact iff_of_false (by decide) (fun a => a ⟨by omega, h2, h3, h4⟩)
  · simp only [h4, decide_false, Bool.not_false]; exact iff_of_true trivial (fun a => h4 a.2.2.2)
theorem implThr_pairs (l : List mP) (hl : l.length ≤ 1048576) : EvB (fun k => impl_Pair_180_181.f k l) (∃ y ∈ l, ¬ pairP y) := by
  obtain ⟨r, q1, q2, q3⟩ := first_ev l (fun x => ¬ pairP x) (g := fun i k => impl_Pair_211_181.l0 k l (l.length : Int) (i : Int)) (by
    refine Ev.shift ?_
    simp only [impl_Pair_211_181.l0, Int.lt_irrefl, if_false]
    exact Ev.now _) (fun i x hx hi hn => by
    have c0 : (0 : Int) ≤ (i : Int) := by omega
    have c1 : (i : Int) < (l.length : Int) := by omega
    have er : rd_T172 l (i : Int) = x := getD_get hx
    refine Ev.shift ?_
    simp only [impl_Pair_211_181.l0, c0, c1, if_true, er]
    exact Ev.bind ((pair_eq x).val hn) (Ev.pos rfl (Ev.now _))) (fun i x hx hi hn r h => by
    have c0 : (0 : Int) ≤ (i : Int) := by omega
    have c1 : (i : Int) < (l.length : Int) := by omega
    have er : rd_T172 l (i : Int) = x := getD_get hx
    refine Ev.shift ?_
    simp only [impl_Pair_211_181.l0, c0, c1, if_true, er, succ64 hi (by omega)]
    exact Ev.bind ((pair_eq x).nval hn) (Ev.neg (by decide) h))
  refine ⟨decide (r ≥ 0), ?_, by rw [decide_eq_true_iff]; exact q3⟩
  simp only [impl_Pair_180_181.f, impl_Pair_211_181.f]
  exact Ev.bind q1 (Ev.now _)
theorem implThr_helps (n : Int) (hn : 0 ≤ n ∧ n ≤ 1048576) (l : List mH) (hl : l.length ≤ 1048576) : EvB (fun k => impl_Help_184_185.f k l n) (∃ y ∈ l, ¬ helpP n y) := by
  obtain ⟨r, q1, q2, q3⟩ := first_ev l (fun x => ¬ helpP n x) (g := fun i k => impl_Help_212_185.l0 k l (l.length : Int) (i : Int) n) (by
    refine Ev.shift ?_
    simp only [impl_Help_212_185.l0, Int.lt_irrefl, if_false]
    exact Ev.now _) (fun i x hx hi hb => by
    have c0 : (0 : Int) ≤ (i : Int) := by omega
    have c1 : (i : Int) < (l.length : Int) := by omega
    have er : rd_T174 l (i : Int) = x := getD_get hx
    refine Ev.shift ?_
    simp only [impl_Help_212_185.l0, c0, c1, if_true, er]
    exact Ev.bind ((help_eq n x hn).val hb) (Ev.pos rfl (Ev.now _))) (fun i x hx hi hb r h => by
    have c0 : (0 : Int) ≤ (i : Int) := by omega
    have c1 : (i : Int) < (l.length : Int) := by omega
    have er : rd_T174 l (i : Int) = x := getD_get hx
    refine Ev.shift ?_
    simp only [impl_Help_212_185.l0, c0, c1, if_true, er, succ64 hi (by omega)]
    exact Ev.bind ((help_eq n x hn).nval hb) (Ev.neg (by decide) h))
  refine ⟨decide (r ≥ 0), ?_, by rw [decide_eq_true_iff]; exact q3⟩
  simp only [impl_Help_184_185.f, impl_Help_212_185.f]
  exact Ev.bind q1 (Ev.now _)
theorem all_not {τ : Type} {l : List τ} {R : τ → Prop} (h : ¬ ∃ x ∈ l, ¬ R x) : ∀ x ∈ l, R x := fun x hx => Classical.byContradiction fun hn => h ⟨x, hx, hn⟩
theorem impl_ThreadOk_b (n : Int) (hn : 0 ≤ n ∧ n ≤ 1048576) (x : mT) (h : smT x) : EvB (fun k => impl_ThreadOk.f k x.f0 x.f1 x.f2 x.f3 x.f4 n) (thrP n x) := by
  obtain ⟨s1, s2, s3⟩ := h
  have bad : Ev (fun k => impl_ThreadOk.j0 k true x.f0 x.f1 x.f2 x.f3 x.f4 n) false := Ev.shift (by simp only [impl_ThreadOk.j0, if_true]; exact Ev.now _)
  have hww : wrap64 ((x.f3.length : Int) + (x.f4.length : Int)) = (x.f3.length : Int) + (x.f4.length : Int) := w64 (by omega) (by omega)
  have good : thrN x → (∀ y ∈ x.f0, opP y) → EvB (fun k => impl_ThreadOk.j1 k false x.f0 x.f1 x.f2 x.f3 x.f4 n) (thrP n x) := fun hn1 hop => by
    refine EvB.shift ?_
    simp only [impl_ThreadOk.j1, Bool.false_eq_true, if_false]
    refine EvB.bind (implThr_pairs x.f3 s2) (fun hp => EvB.pos rfl (EvB.no (Ev.now _) (fun p => hp.elim fun y hy => hy.2 (p.2.2.1 y hy.1)))) (fun hp => EvB.neg (by decide) ?_)
    refine EvB.bind (implThr_helps n hn x.f4 s3) (fun hq => EvB.no (Ev.now _) (fun p => hq.elim fun y hy => hy.2 (p.2.2.2 y hy.1))) (fun hq => EvB.yes (Ev.now _) ⟨hn1, hop, all_not hp, all_not hq⟩)
  have mid : x.f0.length ≤ 8 → (0 ≤ x.f1 ∧ x.f1 ≤ x.f0.length) → (x.f2 = true → x.f1 < x.f0.length) → x.f3.length ≤ 12 → x.f4.length ≤ 2 → (∀ y ∈ x.f0, opP y) → EvB (fun k => impl_ThreadOk.j0 k false x.f0 x.f1 x.f2 x.f3 x.f4 n) (thrP n x) := fun a1 a2 a3 a4 a5 hop => by
    refine EvB.shift ?_
    simp only [impl_ThreadOk.j0, Bool.false_eq_true, if_false, hww]
    refine EvB.ite (fun b1 => good ⟨a1, a2, a3, fun a => (by rw [b1] at a; cases a), a4, a5⟩ hop) (fun b1 => ?_)
    by_cases b2 : (x.f3.length : Int) + (x.f4.length : Int) > 0
    · simp only [b2, decide_true]
      refine EvB.no (Ev.shift (by simp only [impl_ThreadOk.j1, if_true]; exact Ev.now _)) (fun p => absurd (p.1.2.2.2.1 (by simpa using b1)) (by omega))
    · simp only [b2, decide_false]
      exact good ⟨a1, a2, a3, fun _ => by omega, a4, a5⟩ hop
  simp only [impl_ThreadOk.f, implFrom_eq, Option.bind_some, decide_eq_true_eq]
  refine EvB.ite (fun h1 => EvB.no bad (fun p => absurd p.1.1 (by omega))) (fun h1 => ?_)
  refine EvB.bind (implThr_ops x.f0 s1) (fun ho => EvB.pos rfl (EvB.no bad (fun p => ho.elim fun y hy => hy.2 (p.2.1 y hy.1)))) (fun ho => EvB.neg (by decide) ?_)
  have ho' := all_not ho
  refine EvB.ite (fun h2 => ?_) (fun h2 => EvB.no bad (fun p => h2 p.1.2.1))
  refine EvB.ite (fun h3 => EvB.ite (fun h4 => EvB.no bad (fun p => absurd (p.1.2.2.1 h3) (by omega))) (fun h4 => EvB.ite (fun h5 => EvB.no bad (fun p => absurd p.1.2.2.2.2.1 (by omega))) (fun h5 => ?_)))
    (fun h3 => EvB.ite (fun h5 => EvB.no bad (fun p => absurd p.1.2.2.2.2.1 (by omega))) (fun h5 => ?_))
  · by_cases h6 : (x.f4.length : Int) > 2
    · simp only [h6, decide_true]
      exact EvB.no bad (fun p => absurd p.1.2.2.2.2.2 (by omega))
    · simp only [h6, decide_false]
      exact mid (by omega) h2 (fun _ => by omega) (by omega) (by omega) ho'
  · by_cases h6 : (x.f4.length : Int) > 2
    · simp only [h6, decide_true]
      exact EvB.no bad (fun p => absurd p.1.2.2.2.2.2 (by omega))
    · simp only [h6, decide_false]
      exact mid (by omega) h2 (fun a => absurd a h3) (by omega) (by omega) ho'
section
variable {α β : Type}
def Got (o : Option α) (P : α → Prop) : Prop := ∃ a, o = some a ∧ P a
theorem Got.bind {o : Option α} {f : α → Option β} {P : α → Prop} {Q : β → Prop} (h : Got o P) (hf : ∀ a, P a → Got (f a) Q) : Got (o.bind f) Q := by
  obtain ⟨a, rfl, hp⟩ := h
  exact hf a hp
theorem Got.now {a : α} {P : α → Prop} (h : P a) : Got (some a) P := ⟨a, rfl, h⟩
theorem Got.pos {p : Prop} [Decidable p] {a b : Option α} {P : α → Prop} (hp : p) (h : Got a P) : Got (if p then a else b) P := by rw [if_pos hp]; exact h
theorem Got.neg {p : Prop} [Decidable p] {a b : Option α} {P : α → Prop} (hp : ¬ p) (h : Got b P) : Got (if p then a else b) P := by rw [if_neg hp]; exact h
theorem Got.ite {p : Prop} [Decidable p] {a b : Option α} {P : α → Prop} (h1 : p → Got a P) (h2 : ¬ p → Got b P) : Got (if p then a else b) P := by
  by_cases h : p
  · exact Got.pos h (h1 h)
  · exact Got.neg h (h2 h)
theorem Got.mono {o : Option α} {P Q : α → Prop} (h : Got o P) (f : ∀ a, P a → Q a) : Got o Q := by obtain ⟨a, h1, h2⟩ := h; exact ⟨a, h1, f a h2⟩
def EvG (g : Nat → Option α) (P : α → Prop) : Prop := ∃ a, Ev g a ∧ P a
theorem EvG.now {a : α} {P : α → Prop} (h : P a) : EvG (fun _ => some a) P := ⟨a, Ev.now _, h⟩
theorem EvG.bind {g : Nat → Option α} {f : α → Nat → Option β} {P : α → Prop} {Q : β → Prop} (h : EvG g P) (hf : ∀ a, P a → EvG (f a) Q) : EvG (fun k => (g k).bind fun a => f a k) Q := by
  obtain ⟨a, h1, hp⟩ := h
  obtain ⟨b, h2, hq⟩ := hf a hp
  exact ⟨b, Ev.bind h1 h2, hq⟩
theorem EvG.shift {g : Nat → Option α} {P : α → Prop} (h : EvG (fun k => g (k + 1)) P) : EvG g P := by obtain ⟨a, h1, hp⟩ := h; exact ⟨a, Ev.shift h1, hp⟩
theorem EvG.pos {p : Prop} [Decidable p] {a b : Nat → Option α} {P : α → Prop} (hp : p) (h : EvG a P) : EvG (fun k => if p then a k else b k) P := by simp only [hp, if_true]; exact h
theorem EvG.neg {p : Prop} [Decidable p] {a b : Nat → Option α} {P : α → Prop} (hp : ¬ p) (h : EvG b P) : EvG (fun k => if p then a k else b k) P := by simp only [hp, if_false]; exact h
theorem EvG.ite {p : Prop} [Decidable p] {a b : Nat → Option α} {P : α → Prop} (h1 : p → EvG a P) (h2 : ¬ p → EvG b P) : EvG (fun k => if p then a k else b k) P := by
  by_cases h : p
  · exact EvG.pos h (h1 h)
  · exact EvG.neg h (h2 h)
theorem EvG.mono {g : Nat → Option α} {P Q : α → Prop} (h : EvG g P) (f : ∀ a, P a → Q a) : EvG g Q := by obtain ⟨a, h1, h2⟩ := h; exact ⟨a, h1, f a h2⟩
end
def dup (h : List Int) (i : Nat) : Prop := ∃ j, j < i ∧ rd h (j : Int) = rd h (i : Int)
def oneOk (h : List Int) (i : Nat) : Prop := rd h (i : Int) = 0 ∨ (1 ≤ rd h (i : Int) ∧ rd h (i : Int) ≤ 6 ∧ ¬ dup h i)
def allOk (h : List Int) (i : Nat) : Prop := ∀ j, i ≤ j → j < h.length → oneOk h j
theorem allOk_step {h : List Int} {i : Nat} (hi : i < h.length) : allOk h i ↔ (oneOk h i ∧ allOk h (i + 1)) := by
  constructor
  · intro a; exact ⟨a i (Nat.le_refl _) hi, fun j h1 h2 => a j (by omega) h2⟩
  · intro ⟨a, b⟩ j h1 h2
    by_cases e : j = i
    · rw [e]; exact a
    · exact b j (by omega) h2
noncomputable def okB (h : List Int) (i : Nat) (s : Int) : Bool := @decide (allOk h i ∧ h.length = 4 ∧ 0 ≤ s ∧ s ≤ 5) (Classical.propDecidable _)
theorem okB_iff {h : List Int} {i : Nat} {s : Int} : okB h i s = true ↔ (allOk h i ∧ h.length = 4 ∧ 0 ≤ s ∧ s ≤ 5) := by
  unfold okB
  exact @decide_eq_true_iff _ (Classical.propDecidable _)
theorem okB_false {h : List Int} {i : Nat} {s : Int} (hi : i < h.length) (hn : ¬ oneOk h i) : okB h i s = false := by
  rw [Bool.eq_false_iff]
  intro a
  exact hn ((allOk_step hi).mp (okB_iff.mp a).1).1
theorem okB_next {h : List Int} {i : Nat} {s : Int} (hi : i < h.length) (hy : oneOk h i) : okB h i s = okB h (i + 1) s := by
  rw [Bool.eq_iff_iff, okB_iff, okB_iff, allOk_step hi]
  exact ⟨fun a => ⟨a.1.2, a.2⟩, fun a => ⟨⟨hy, a.1⟩, a.2⟩⟩
theorem okB_end (h : List Int) (s : Int) : okB h h.length s = decide (h.length = 4 ∧ 0 ≤ s ∧ s ≤ 5) := by
  rw [Bool.eq_iff_iff, okB_iff, decide_eq_true_iff]
  have : allOk h h.length := fun j h1 h2 => absurd h2 (by omega)
  exact ⟨fun a => a.2, fun a => ⟨this, a⟩⟩
theorem key_ev (h : List Int) (hl : h.length ≤ 9223372036854775807) (s v : Int) : ∀ p : Nat, p ≤ h.length → ∃ r : Int, Ev (fun k => spec_KeyOf.l0 k v (p : Int) h s) r ∧
    ((r = -1 ∧ ∀ j : Nat, p ≤ j → j < h.length → rd h (j : Int) ≠ v) ∨ ∃ q : Nat, r = (q : Int) ∧ p ≤ q ∧ q < h.length ∧ rd h (q : Int) = v ∧ ∀ j : Nat, p ≤ j → j < q → rd h (j : Int) ≠ v) := by
  refine back ?_ fun p hp ih => ?_
  · refine ⟨-1, Ev.shift ?_, Or.inl ⟨rfl, fun j h1 h2 => absurd h2 (by omega)⟩⟩
    simp only [spec_KeyOf.l0, Int.lt_irrefl, if_false]
    exact Ev.now _
  · have c0 : (0 : Int) ≤ (p : Int) := by omega
    have c1 : (p : Int) < (h.length : Int) := by omega
    by_cases e : rd h (p : Int) = v
    · refine ⟨(p : Int), Ev.shift ?_, Or.inr ⟨p, rfl, Nat.le_refl _, hp, e, fun j h1 h2 => absurd h2 (by omega)⟩⟩
      simp only [spec_KeyOf.l0, c0, c1, e, if_true]
      exact Ev.now _
    · obtain ⟨r, h1, h2⟩ := ih
      refine ⟨r, Ev.shift ?_, ?_⟩
      · simp only [spec_KeyOf.l0, c0, c1, e, if_true, if_false, succ64 hp hl]
        exact h1
      · rcases h2 with ⟨a, b⟩ | ⟨q, a, b, c, d, f⟩
        · refine Or.inl ⟨a, fun j h3 h4 => ?_⟩
          by_cases ej : j = p
          · rw [ej]; exact e
          · exact b j (by omega) h4
        · refine Or.inr ⟨q, a, by omega, c, d, fun j h3 h4 => ?_⟩
          by_cases ej : j = p
          · rw [ej]; exact e
          · exact f j (by omega) h4
theorem index_ev (x : List Int) (hl : x.length ≤ 9223372036854775807) (v : Int) : ∀ p : Nat, p ≤ x.length → ∃ r : Int, Ev (fun k => slices_Index_int_int.l0 k x v (x.length : Int) (p : Int)) r ∧
    (r ≥ 0 ↔ ∃ j : Nat, p ≤ j ∧ j < x.length ∧ rd x (j : Int) = v) := by
  refine back ?_ fun p hp ih => ?_
  · refine ⟨-1, Ev.shift ?_, ?_⟩
    · simp only [slices_Index_int_int.l0, Int.lt_irrefl, if_false]
      exact Ev.now _
    · constructor
      · intro h; omega
      · intro ⟨j, h1, h2, _⟩; omega
  · have c0 : (0 : Int) ≤ (p : Int) := by omega
    have c1 : (p : Int) < (x.length : Int) := by omega
    by_cases e : v = rd x (p : Int)
    · refine ⟨(p : Int), Ev.shift ?_, ?_⟩
      · simp only [slices_Index_int_int.l0, c0, c1, if_true]
        refine Ev.pos e (Ev.now _)
      · exact ⟨fun _ => ⟨p, Nat.le_refl _, hp, e.symm⟩, fun _ => c0⟩
    · obtain ⟨r, h1, h2⟩ := ih
      refine ⟨r, Ev.shift ?_, ?_⟩
      · simp only [slices_Index_int_int.l0, c0, c1, if_true, succ64 hp hl]
        refine Ev.neg e h1
      · rw [h2]
        constructor
        · intro ⟨j, h3, h4, h5⟩; exact ⟨j, by omega, h4, h5⟩
        · intro ⟨j, h3, h4, h5⟩
          refine ⟨j, ?_, h4, h5⟩
          by_cases ej : j = p
          · rw [ej] at h5; exact absurd h5.symm e
          · omega
theorem rd_take (h : List Int) {i j : Nat} (hj : j < i) (hl : j < h.length) : rd (h.take i) (j : Int) = rd h (j : Int) := by
  have h1 : (h.take i)[j]? = some h[j] := by rw [List.getElem?_take, if_pos hj]; exact List.getElem?_eq_getElem hl
  rw [rd_get h1, rd_get (List.getElem?_eq_getElem hl)]
theorem spec_RowsOk_ev (h : List Int) (s : Int) (hl : h.length ≤ 1048576) : Ev (fun k => spec_RowsOk.f k h s) (okB h 0 s) := by
  simp only [spec_RowsOk.f]
  refine back (n := h.length) (Q := fun i => Ev (fun k => spec_RowsOk.l0 k (i : Int) h s) (okB h i s)) ?_ (fun i hi ih => ?_) 0 (Nat.zero_le _)
  · refine Ev.shift ?_
    rw [okB_end]
    simp only [spec_RowsOk.l0, Int.lt_irrefl, if_false, spec_l1In.f]
    by_cases h4 : h.length = 4
    · have c : (h.length : Int) = 4 := by omega
      simp only [c, h4, if_true, true_and]
      by_cases h0 : s ≥ 0
      · simp only [h0, if_true, Option.bind_some]
        exact Ev.val (by first | (simp; done) | (simp; omega))
      · simp only [h0, if_false, Option.bind_some]
        exact Ev.val (by first | (simp; done) | (simp; omega))
    · have c : ¬ (h.length : Int) = 4 := by omega
      simp only [c, h4, if_false, false_and, decide_false]
      exact Ev.now _
  · have c0 : (0 : Int) ≤ (i : Int) := by omega
    have c1 : (i : Int) < (h.length : Int) := by omega
    refine Ev.shift ?_
    simp only [spec_RowsOk.l0, c0, c1, if_true, succ64 hi (by omega), spec_ValOk.f, spec_l1In.f]
    by_cases hz : rd h (i : Int) = 0
    · rw [okB_next hi (Or.inl hz)]
      simp only [hz, if_true]
      exact ih
    · simp only [hz, if_false]
      by_cases h1 : rd h (i : Int) ≥ 1
      · by_cases h6 : rd h (i : Int) ≤ 6
        · simp only [h1, h6, if_true, decide_true, Option.bind_some]
          obtain ⟨r, e1, e2⟩ := key_ev h (by omega) s (rd h (i : Int)) 0 (Nat.zero_le _)
          have e1' : Ev (fun k => spec_KeyOf.f k h s (rd h (i : Int))) r := e1
          refine Ev.bind e1' ?_
          by_cases hr : r = (i : Int)
          · have hd : ¬ dup h i := by
              rintro ⟨j, hj1, hj2⟩
              rcases e2 with ⟨a, b⟩ | ⟨q, a, b, c, d, f⟩
              · exact b j (Nat.zero_le _) (by omega) hj2
              · exact f j (Nat.zero_le _) (by omega) hj2
            rw [okB_next hi (Or.inr ⟨h1, h6, hd⟩)]
            simp only [hr, if_true]
            exact ih
          · have hd : dup h i := by
              rcases e2 with ⟨a, b⟩ | ⟨q, a, b, c, d, f⟩
              · exact absurd rfl (b i (Nat.zero_le _) hi)
              · refine ⟨q, ?_, d⟩
                apply Classical.byContradiction
                intro hn
                by_cases hq : i < q
                · exact f i (Nat.zero_le _) hq rfl
                · exact hr (by omega)
            rw [okB_false hi (fun a => a.elim hz (fun a => a.2.2 hd))]
            simp only [hr, if_false]
            exact Ev.now _
        · rw [okB_false hi (fun a => a.elim hz (fun a => h6 a.2.1))]
          simp only [h1, h6, if_true, decide_false, Option.bind_some, Bool.false_eq_true, if_false]
          exact Ev.now _
      · rw [okB_false hi (fun a => a.elim hz (fun a => h1 a.1))]
        simp only [h1, Option.bind_some, Bool.false_eq_true, if_false]
        exact Ev.now _
theorem impl_RowsOk_ev (h : List Int) (s : Int) (hl : h.length ≤ 1048576) : Ev (fun k => impl_RowsOk.f k h s) (okB h 0 s) := by
  simp only [impl_RowsOk.f]
  refine back (n := h.length) (Q := fun i => Ev (fun k => impl_RowsOk.l0 k h (h.length : Int) (i : Int) h s) (okB h i s)) ?_ (fun i hi ih => ?_) 0 (Nat.zero_le _)
  · refine Ev.shift ?_
    rw [okB_end]
    simp only [impl_RowsOk.l0, Int.lt_irrefl, if_false, impl_from.f]
    by_cases h4 : h.length = 4
    · have c : (h.length : Int) = 4 := by omega
      simp only [c, h4, if_true, true_and]
      by_cases h0 : s ≥ 0
      · simp only [h0, if_true, Option.bind_some]
        exact Ev.val (by first | (simp; done) | (simp; omega))
      · simp only [h0, if_false, Option.bind_some]
        exact Ev.val (by first | (simp; done) | (simp; omega))
    · have c : ¬ (h.length : Int) = 4 := by omega
      simp only [c, h4, if_false, false_and, decide_false]
      exact Ev.now _
  · have c0 : (0 : Int) ≤ (i : Int) := by omega
    have c1 : (i : Int) < (h.length : Int) := by omega
    have c2 : (i : Int) ≤ (h.length : Int) := by omega
    refine Ev.shift ?_
    simp only [impl_RowsOk.l0, c0, c1, c2, if_true, succ64 hi (by omega), impl_ValOk.f, impl_from.f, Int.toNat_natCast]
    by_cases hz : rd h (i : Int) = 0
    · rw [okB_next hi (Or.inl hz)]
      simp only [hz, if_true]
      exact ih
    · simp only [hz, if_false]
      by_cases h1 : rd h (i : Int) ≥ 1
      · by_cases h6 : rd h (i : Int) ≤ 6
        · simp only [h1, h6, if_true, decide_true, Option.bind_some]
          obtain ⟨r, e1, e2⟩ := index_ev (h.take i) (by rw [List.length_take]; omega) (rd h (i : Int)) 0 (Nat.zero_le _)
          have e1' : Ev (fun k => slices_Contains_int_int.f k (h.take i) (rd h (i : Int))) (decide (r ≥ 0)) := by
            simp only [slices_Contains_int_int.f]
            exact Ev.bind (show Ev (fun k => slices_Index_int_int.f k (h.take i) (rd h (i : Int))) r from e1) (Ev.now _)
          refine Ev.bind e1' ?_
          have hd : r ≥ 0 ↔ dup h i := by
            rw [e2]
            constructor
            · intro ⟨j, _, h3, h4⟩
              rw [List.length_take] at h3
              exact ⟨j, by omega, by rw [rd_take h (by omega) (by omega)] at h4; exact h4⟩
            · intro ⟨j, h3, h4⟩
              exact ⟨j, Nat.zero_le _, by rw [List.length_take]; omega, by rw [rd_take h h3 (by omega)]; exact h4⟩
          by_cases hr : r ≥ 0
          · rw [okB_false hi (fun a => a.elim hz (fun a => a.2.2 (hd.mp hr)))]
            simp only [hr, decide_true, if_true]
            exact Ev.now _
          · rw [okB_next hi (Or.inr ⟨h1, h6, fun a => hr (hd.mpr a)⟩)]
            simp only [hr, decide_false, Bool.false_eq_true, if_false]
            exact ih
        · rw [okB_false hi (fun a => a.elim hz (fun a => h6 a.2.1))]
          simp only [h1, h6, if_true, decide_false, Option.bind_some, Bool.false_eq_true, if_false]
          exact Ev.now _
      · rw [okB_false hi (fun a => a.elim hz (fun a => h1 a.1))]
        simp only [h1, Option.bind_some, Bool.false_eq_true, if_false]
        exact Ev.now _
abbrev mC := S73
def callP (n : Int) (tm : Int) (x : mC) : Prop := (0 ≤ x.f0 ∧ x.f0 ≤ n - 1) ∧ opP x.f1 ∧ (0 ≤ x.f2 ∧ x.f2 ≤ tm) ∧ (x.f3 = -1 ∨ (x.f2 ≤ x.f3 ∧ x.f3 ≤ tm)) ∧ (x.f4 = -1 ∨ (x.f2 ≤ x.f4 ∧ x.f4 ≤ tm))
theorem spec_l9Call_b (w : List mW) (d : List mD) (t : List mT) (tm : Int) (c : List mC) (p q : List Int) (s : Int) (x : mC) (ht : t.length ≤ 1048576) :
    EvB (fun k => spec_l9Call.f k w d t tm c p q s x.f0 x.f1.f0 x.f1.f1 x.f1.f2 x.f2 x.f3 x.f4 x.f5.f0 x.f5.f1) (callP t.length tm x) := by
  have hww : wrap64 ((t.length : Int) - 1) = (t.length : Int) - 1 := w64 (by omega) (by omega)
  simp only [spec_l9Call.f, specIn_eq, Option.bind_some, decide_eq_true_eq, hww]
  refine EvB.ite (fun h1 => ?_) (fun h1 => EvB.no (Ev.now _) (fun p => h1 p.1))
  refine EvB.at (spec_OpOk_ev _ _ _) ?_
  refine EvB.ite (fun h2 => ?_) (fun h2 => EvB.no (Ev.now _) (fun p => h2 p.2.1))
  refine EvB.ite (fun h3 => ?_) (fun h3 => EvB.no (Ev.now _) (fun p => h3 p.2.2.1))
  refine EvB.ite (fun h4 => EvB.ite (fun h5 => EvB.yes (Ev.now _) ⟨h1, h2, h3, .inl h4, .inl h5⟩) (fun h5 => EvB.now ?_)) (fun h4 => EvB.ite (fun h5 => EvB.ite (fun h6 => EvB.yes (Ev.now _) ⟨h1, h2, h3, .inr h5, .inl h6⟩) (fun h6 => EvB.now ?_)) (fun h5 => EvB.no (Ev.now _) (fun p => p.2.2.2.1.elim h4 h5)))
  · rw [decide_eq_true_iff]
    exact ⟨fun a => ⟨h1, h2, h3, .inl h4, .inr a⟩, fun a => a.2.2.2.2.elim (fun b => absurd b h5) id⟩
  · rw [decide_eq_true_iff]
    exact ⟨fun a => ⟨h1, h2, h3, .inr h5, .inr a⟩, fun a => a.2.2.2.2.elim (fun b => absurd b h6) id⟩
def cntC (R : mC → Bool) (c : List mC) : Nat → Nat
  | 0 => 0
  | i + 1 => cntC R c i + (if R (rd_T73 c (i : Int)) = true then 1 else 0)
theorem cntC_le (R : mC → Bool) (c : List mC) : ∀ i, cntC R c i ≤ i
  | 0 => Nat.le_refl _
  | i + 1 => by
    have := cntC_le R c i
    simp only [cntC]
    split <;> omega
def soC (x : mC) : Bool := decide (x.f3 ≥ 0)
def ordP (c : List mC) (o : List Int) (i : Nat) : Prop := (0 ≤ rd o (i : Int) ∧ rd o (i : Int) ≤ (c.length : Int) - 1) ∧ ¬ (rd_T73 c (rd o (i : Int))).f3 < 0 ∧ ¬ dup o i ∧ (0 < i → ¬ (rd_T73 c (rd o ((i : Int) - 1))).f3 > (rd_T73 c (rd o (i : Int))).f3)
def ordersP (c : List mC) (o : List Int) : Prop := (∀ i, i < o.length → ordP c o i) ∧ cntC soC c c.length = o.length
theorem spec_l9Calls_l2 (w : List mW) (d : List mD) (t : List mT) (tm : Int) (c : List mC) (o q : List Int) (s : Int) (x3 : Int) (i : Nat) (hi : i < o.length) (ho : o.length ≤ 1048576) (r : Bool)
    (h : ¬ dup o i → Ev (fun k => spec_l9Calls.l1 k x3 ((i + 1 : Nat) : Int) w d t tm c o q s) r) (h' : dup o i → r = false) : Ev (fun k => spec_l9Calls.l2 k x3 (i : Int) (rd o (i : Int)) 0 w d t tm c o q s) r := by
  have key : ∀ m j, j + m = i → (∀ a, a < j → rd o (a : Int) ≠ rd o (i : Int)) → Ev (fun k => spec_l9Calls.l2 k x3 (i : Int) (rd o (i : Int)) (j : Int) w d t tm c o q s) r := by
    intro m
    induction m with
    | zero =>
      intro j hj hp
      obtain rfl : j = i := by omega
      refine Ev.shift ?_
      simp only [spec_l9Calls.l2, Int.lt_irrefl, if_false, succ64 hi (by omega)]
      exact h fun ⟨a, ha, e⟩ => hp a ha e
    | succ m ih =>
      intro j hj hp
      have c0 : (0 : Int) ≤ (j : Int) := by omega
      have c1 : (j : Int) < (i : Int) := by omega
      have c2 : (j : Int) < (o.length : Int) := by omega
      refine Ev.shift ?_
      simp only [spec_l9Calls.l2, c0, c1, c2, if_true, succ64 (show j < o.length by omega) (by omega)]
      by_cases e : rd o (j : Int) = rd o (i : Int)
      · exact Ev.pos e (Ev.val (h' ⟨j, by omega, e⟩).symm)
      · refine Ev.neg e (ih (j + 1) (by omega) (fun a ha => ?_))
        rcases Nat.lt_succ_iff_lt_or_eq.mp ha with b | b
        · exact hp a b
        · rw [b]; exact e
  exact key i 0 (by omega) (fun a ha => absurd ha (Nat.not_lt_zero _))
theorem spec_orders_b (w : List mW) (d : List mD) (t : List mT) (tm : Int) (c : List mC) (o q : List Int) (s : Int) (ho : o.length ≤ 1048576) (hc : c.length ≤ 1048576) (z : Nat) :
    EvB (fun k => spec_l9Calls.l1 k (z : Int) 0 w d t tm c o q s) ((∀ i, i < o.length → ordP c o i) ∧ c.length ≤ 40 ∧ z = o.length) := by
  have hww : wrap64 ((c.length : Int) - 1) = (c.length : Int) - 1 := w64 (by omega) (by omega)
  refine EvB.loop (n := o.length) (P := ordP c o) (g := fun i k => spec_l9Calls.l1 k (z : Int) (i : Int) w d t tm c o q s) (fun _ => ?_) (fun i hi hp hn => ?_) (fun i hi hp hr r h => ?_)
  · refine EvB.shift ?_
    simp only [spec_l9Calls.l1, Int.lt_irrefl, if_false]
    refine EvB.ite (fun h1 => EvB.now ?_) (fun h1 => EvB.no (Ev.now _) (fun p => absurd p.1 (by omega)))
    rw [beq_iff_eq]; omega
  · have c0 : (0 : Int) ≤ (i : Int) := by omega
    have c1 : (i : Int) < (o.length : Int) := by omega
    refine Ev.shift ?_
    simp only [spec_l9Calls.l1, c0, c1, if_true, specIn_eq, Option.bind_some, decide_eq_true_eq, hww]
    have bad : Ev (fun k => spec_l9Calls.j2 k (z : Int) (i : Int) (rd o (i : Int)) true w d t tm c o q s) false := Ev.shift (by simp only [spec_l9Calls.j2, if_true]; exact Ev.now _)
    by_cases h1 : 0 ≤ rd o (i : Int) ∧ rd o (i : Int) ≤ (c.length : Int) - 1
    · refine Ev.pos h1 (Ev.pos h1.1 (Ev.pos (by omega) ?_))
      by_cases h2 : (rd_T73 c (rd o (i : Int))).f3 < 0
      · exact Ev.pos h2 bad
      · refine Ev.neg h2 ?_
        have go : (0 < i → ¬ (rd_T73 c (rd o ((i : Int) - 1))).f3 > (rd_T73 c (rd o (i : Int))).f3) → Ev (fun k => spec_l9Calls.j2 k (z : Int) (i : Int) (rd o (i : Int)) false w d t tm c o q s) false := fun h4 => by
          refine Ev.shift ?_
          simp only [spec_l9Calls.j2, Bool.false_eq_true, if_false]
          exact spec_l9Calls_l2 w d t tm c o q s z i hi ho false (fun h3 => absurd ⟨h1, h2, h3, h4⟩ hn) (fun _ => rfl)
        by_cases h5 : (i : Int) > 0
        · have e1 : wrap64 ((i : Int) - 1) = (i : Int) - 1 := w64 (by omega) (by omega)
          have e2 : (0 : Int) ≤ (i : Int) - 1 := by omega
          have e3 : (i : Int) - 1 < (o.length : Int) := by omega
          have e4 := (hp (i - 1) (by omega)).1
          rw [show ((i - 1 : Nat) : Int) = (i : Int) - 1 by omega] at e4
          refine Ev.pos h5 ?_
          simp only [e1]
          refine Ev.pos e2 (Ev.pos e3 (Ev.pos e4.1 (Ev.pos (by omega) ?_)))
          by_cases h6 : (rd_T73 c (rd o ((i : Int) - 1))).f3 > (rd_T73 c (rd o (i : Int))).f3
          · simp only [h6, decide_true]
            exact bad
          · simp only [h6, decide_false]
            exact go fun _ => h6
        · exact Ev.neg h5 (go fun a => absurd a (by omega))
    · exact Ev.neg h1 bad
  · have c0 : (0 : Int) ≤ (i : Int) := by omega
    have c1 : (i : Int) < (o.length : Int) := by omega
    obtain ⟨h1, h2, h3, h4⟩ := hr
    refine Ev.shift ?_
    simp only [spec_l9Calls.l1, c0, c1, if_true, specIn_eq, Option.bind_some, decide_eq_true_eq, hww]
    have go : Ev (fun k => spec_l9Calls.j2 k (z : Int) (i : Int) (rd o (i : Int)) false w d t tm c o q s) r := by
      refine Ev.shift ?_
      simp only [spec_l9Calls.j2, Bool.false_eq_true, if_false]
      exact spec_l9Calls_l2 w d t tm c o q s z i hi ho r (fun _ => h) (fun a => absurd a h3)
    refine Ev.pos h1 (Ev.pos h1.1 (Ev.pos (by omega) (Ev.neg h2 ?_)))
    by_cases h5 : (i : Int) > 0
    · have e1 : wrap64 ((i : Int) - 1) = (i : Int) - 1 := w64 (by omega) (by omega)
      have e2 : (0 : Int) ≤ (i : Int) - 1 := by omega
      have e3 : (i : Int) - 1 < (o.length : Int) := by omega
      have e4 := (hp (i - 1) (by omega)).1
      rw [show ((i - 1 : Nat) : Int) = (i : Int) - 1 by omega] at e4
      have h6 := h4 (by omega)
      refine Ev.pos h5 ?_
      simp only [e1, h6, decide_false]
      exact Ev.pos e2 (Ev.pos e3 (Ev.pos e4.1 (Ev.pos (by omega) go)))
    · exact Ev.neg h5 go
theorem spec_l9Calls_b (w : List mW) (d : List mD) (t : List mT) (tm : Int) (c : List mC) (o q : List Int) (s : Int) (ht : t.length ≤ 1048576) (hc : c.length ≤ 1048576) (ho : o.length ≤ 1048576) :
    EvB (fun k => spec_l9Calls.f k w d t tm c o q s) ((∀ x ∈ c, callP t.length tm x) ∧ c.length ≤ 40 ∧ ordersP c o) := by
  simp only [spec_l9Calls.f]
  refine (EvB.each c (R := fun _ x => callP t.length tm x) (Q := (∀ i, i < o.length → ordP c o i) ∧ c.length ≤ 40 ∧ cntC soC c c.length = o.length) (g := fun i k => spec_l9Calls.l0 k (cntC soC c i : Int) (i : Int) w d t tm c o q s) (fun _ => ?_) (fun i x hx hi hp hn => ?_) (fun i x hx hi hp hr r h => ?_)).iff ?_
  · refine EvB.shift ?_
    simp only [spec_l9Calls.l0, Int.lt_irrefl, if_false]
    exact spec_orders_b w d t tm c o q s ho hc _
  · have c0 : (0 : Int) ≤ (i : Int) := by omega
    have c1 : (i : Int) < (c.length : Int) := by omega
    have er : rd_T73 c (i : Int) = x := getD_get hx
    refine Ev.shift ?_
    simp only [spec_l9Calls.l0, c0, c1, if_true, er]
    exact Ev.bind ((spec_l9Call_b w d t tm c o q s x ht).nval hn) (Ev.neg (by decide) (Ev.now _))
  · have c0 : (0 : Int) ≤ (i : Int) := by omega
    have c1 : (i : Int) < (c.length : Int) := by omega
    have er : rd_T73 c (i : Int) = x := getD_get hx
    have hle := cntC_le soC c i
    refine Ev.shift ?_
    simp only [spec_l9Calls.l0, c0, c1, if_true, er]
    refine Ev.bind ((spec_l9Call_b w d t tm c o q s x ht).val hr) (Ev.pos rfl ?_)
    simp only [cntC, er] at h
    by_cases h5 : x.f3 ≥ 0
    · have e1 : wrap64 ((cntC soC c i : Int) + 1) = ((cntC soC c i + 1 : Nat) : Int) := by rw [w64 (by omega) (by omega)]; omega
      have e2 : soC x = true := by unfold soC; rw [decide_eq_true_iff]; exact h5
      simp only [e2, if_true] at h
      simp only [h5, decide_true, spec_l1Bit.f, if_true, Option.bind_some, e1, succ64 hi (by omega)]
      exact h
    · have e1 : wrap64 ((cntC soC c i : Int) + 0) = ((cntC soC c i : Nat) : Int) := by rw [w64 (by omega) (by omega)]; omega
      have e2 : ¬ soC x = true := by unfold soC; rw [decide_eq_true_iff]; exact h5
      simp only [e2, if_false, Nat.add_zero] at h
      simp only [h5, decide_false, spec_l1Bit.f, if_false, Bool.false_eq_true, Option.bind_some, e1, succ64 hi (by omega)]
      exact h
  · rw [each_mem]
    exact ⟨fun p => ⟨p.1, p.2.2.1, p.2.1, p.2.2.2⟩, fun p => ⟨p.1, p.2.2.1, p.2.1, p.2.2.2⟩⟩
theorem contains_ev (x : List Int) (hl : x.length ≤ 1048576) (v : Int) : EvB (fun k => slices_Contains_int_int.f k x v) (∃ j : Nat, j < x.length ∧ rd x (j : Int) = v) := by
  obtain ⟨r, q1, q2, q3⟩ := first_ev x (fun y => y = v) (g := fun i k => slices_Index_int_int.l0 k x v (x.length : Int) (i : Int)) (by
    refine Ev.shift ?_
    simp only [slices_Index_int_int.l0, Int.lt_irrefl, if_false]
    exact Ev.now _) (fun i y hx hi hn => by
    have c0 : (0 : Int) ≤ (i : Int) := by omega
    have c1 : (i : Int) < (x.length : Int) := by omega
    have er : rd x (i : Int) = y := rd_get hx
    refine Ev.shift ?_
    simp only [slices_Index_int_int.l0, c0, c1, if_true, er]
    exact Ev.pos hn.symm (Ev.now _)) (fun i y hx hi hn r h => by
    have c0 : (0 : Int) ≤ (i : Int) := by omega
    have c1 : (i : Int) < (x.length : Int) := by omega
    have er : rd x (i : Int) = y := rd_get hx
    refine Ev.shift ?_
    simp only [slices_Index_int_int.l0, c0, c1, if_true, er, succ64 hi (by omega)]
    exact Ev.neg (fun a => hn a.symm) h)
  refine ⟨decide (r ≥ 0), ?_, ?_⟩
  · simp only [slices_Contains_int_int.f, slices_Index_int_int.f]
    exact Ev.bind q1 (Ev.now _)
  · rw [decide_eq_true_iff, q3]
    constructor
    · rintro ⟨y, hy, rfl⟩
      obtain ⟨j, hj, e⟩ := List.mem_iff_getElem.mp hy
      exact ⟨j, hj, by rw [← e]; exact rd_get (List.getElem?_eq_getElem hj)⟩
    · rintro ⟨j, hj, e⟩
      refine ⟨v, ?_, rfl⟩
      rw [← e, show rd x (j : Int) = x[j] from rd_get (List.getElem?_eq_getElem hj)]
      exact List.getElem_mem hj
theorem dup_take {o : List Int} {i : Nat} (hi : i < o.length) : (∃ j : Nat, j < (o.take i).length ∧ rd (o.take i) (j : Int) = rd o (i : Int)) ↔ dup o i := by
  have hl : (o.take i).length = i := by rw [List.length_take]; omega
  rw [hl]
  constructor
  · rintro ⟨j, hj, e⟩
    exact ⟨j, hj, by rw [← rd_take o hj (by omega)]; exact e⟩
  · rintro ⟨j, hj, e⟩
    exact ⟨j, hj, by rw [rd_take o hj (by omega)]; exact e⟩
theorem impl_orders_b (w : List mW) (d : List mD) (t : List mT) (tm : Int) (c : List mC) (o q : List Int) (s : Int) (ho : o.length ≤ 1048576) (hc : c.length ≤ 1048576) (z : Nat) :
    EvB (fun k => impl_orderOk.l1 k (z : Int) o (o.length : Int) 0 w d t tm c o q s) ((∀ i, i < o.length → ordP c o i) ∧ z = o.length) := by
  have hww : wrap64 ((c.length : Int) - 1) = (c.length : Int) - 1 := w64 (by omega) (by omega)
  refine EvB.loop (n := o.length) (P := ordP c o) (g := fun i k => impl_orderOk.l1 k (z : Int) o (o.length : Int) (i : Int) w d t tm c o q s) (fun _ => ?_) (fun i hi hp hn => ?_) (fun i hi hp hr r h => ?_)
  · refine EvB.shift ?_
    simp only [impl_orderOk.l1, Int.lt_irrefl, if_false]
    refine EvB.now ?_
    rw [beq_iff_eq]; omega
  · have c0 : (0 : Int) ≤ (i : Int) := by omega
    have c1 : (i : Int) < (o.length : Int) := by omega
    have c2 : (i : Int) ≤ (o.length : Int) := by omega
    refine Ev.shift ?_
    simp only [impl_orderOk.l1, c0, c1, c2, if_true, implFrom_eq, Option.bind_some, decide_eq_true_eq, hww, Int.toNat_natCast]
    by_cases h1 : 0 ≤ rd o (i : Int) ∧ rd o (i : Int) ≤ (c.length : Int) - 1
    · refine Ev.pos h1 (Ev.pos h1.1 (Ev.pos (by omega) ?_))
      by_cases h2 : (rd_T73 c (rd o (i : Int))).f3 < 0
      · exact Ev.pos h2 (Ev.now _)
      · refine Ev.neg h2 ?_
        refine EvB.then_ (contains_ev (o.take i) (by rw [List.length_take]; omega) (rd o (i : Int))) (fun h3 => Ev.pos rfl (Ev.now _)) (fun h3 => Ev.neg (by decide) ?_)
        rw [dup_take hi] at h3
        by_cases h5 : (i : Int) > 0
        · have e1 : wrap64 ((i : Int) - 1) = (i : Int) - 1 := w64 (by omega) (by omega)
          have e2 : (0 : Int) ≤ (i : Int) - 1 := by omega
          have e3 : (i : Int) - 1 < (o.length : Int) := by omega
          have e4 := (hp (i - 1) (by omega)).1
          rw [show ((i - 1 : Nat) : Int) = (i : Int) - 1 by omega] at e4
          refine Ev.pos h5 ?_
          simp only [e1]
          refine Ev.pos e2 (Ev.pos e3 (Ev.pos e4.1 (Ev.pos (by omega) ?_)))
          by_cases h6 : (rd_T73 c (rd o ((i : Int) - 1))).f3 > (rd_T73 c (rd o (i : Int))).f3
          · exact Ev.pos h6 (Ev.now _)
          · exact absurd ⟨h1, h2, h3, fun _ => h6⟩ hn
        · exact absurd ⟨h1, h2, h3, fun a => absurd a (by omega)⟩ hn
    · exact Ev.neg h1 (Ev.now _)
  · have c0 : (0 : Int) ≤ (i : Int) := by omega
    have c1 : (i : Int) < (o.length : Int) := by omega
    have c2 : (i : Int) ≤ (o.length : Int) := by omega
    obtain ⟨h1, h2, h3, h4⟩ := hr
    rw [← dup_take hi] at h3
    refine Ev.shift ?_
    simp only [impl_orderOk.l1, c0, c1, c2, if_true, implFrom_eq, Option.bind_some, decide_eq_true_eq, hww, Int.toNat_natCast, succ64 hi (by omega)]
    refine Ev.pos h1 (Ev.pos h1.1 (Ev.pos (by omega) (Ev.neg h2 ?_)))
    refine Ev.bind ((contains_ev (o.take i) (by rw [List.length_take]; omega) (rd o (i : Int))).nval h3) (Ev.neg (by decide) ?_)
    by_cases h5 : (i : Int) > 0
    · have e1 : wrap64 ((i : Int) - 1) = (i : Int) - 1 := w64 (by omega) (by omega)
      have e2 : (0 : Int) ≤ (i : Int) - 1 := by omega
      have e3 : (i : Int) - 1 < (o.length : Int) := by omega
      have e4 := (hp (i - 1) (by omega)).1
      rw [show ((i - 1 : Nat) : Int) = (i : Int) - 1 by omega] at e4
      refine Ev.pos h5 ?_
      simp only [e1]
      exact Ev.pos e2 (Ev.pos e3 (Ev.pos e4.1 (Ev.pos (by omega) (Ev.neg (h4 (by omega)) h))))
    · exact Ev.neg h5 h
theorem impl_orderOk_b (w : List mW) (d : List mD) (t : List mT) (tm : Int) (c : List mC) (o q : List Int) (s : Int) (ho : o.length ≤ 1048576) (hc : c.length ≤ 1048576) :
    EvB (fun k => impl_orderOk.f k w d t tm c o q s) (ordersP c o) := by
  simp only [impl_orderOk.f]
  refine (EvB.each c (R := fun _ _ => True) (Q := ordersP c o) (g := fun i k => impl_orderOk.l0 k (cntC soC c i : Int) c (c.length : Int) (i : Int) w d t tm c o q s) (fun _ => ?_) (fun i x hx hi hp hn => absurd trivial hn) (fun i x hx hi hp hr r h => ?_)).iff ⟨fun a => a.2, fun a => ⟨fun _ _ _ => trivial, a⟩⟩
  · refine EvB.shift ?_
    simp only [impl_orderOk.l0, Int.lt_irrefl, if_false]
    exact impl_orders_b w d t tm c o q s ho hc _
  · have c0 : (0 : Int) ≤ (i : Int) := by omega
    have c1 : (i : Int) < (c.length : Int) := by omega
    have er : rd_T73 c (i : Int) = x := getD_get hx
    have hle := cntC_le soC c i
    refine Ev.shift ?_
    simp only [impl_orderOk.l0, c0, c1, if_true, er]
    simp only [cntC, er] at h
    by_cases h5 : x.f3 ≥ 0
    · have e1 : wrap64 ((cntC soC c i : Int) + 1) = ((cntC soC c i + 1 : Nat) : Int) := by rw [w64 (by omega) (by omega)]; omega
      have e2 : soC x = true := by unfold soC; rw [decide_eq_true_iff]; exact h5
      simp only [e2, if_true] at h
      simp only [h5, if_true, e1, succ64 hi (by omega)]
      exact h
    · have e2 : ¬ soC x = true := by unfold soC; rw [decide_eq_true_iff]; exact h5
      simp only [e2, if_false, Nat.add_zero] at h
      simp only [h5, if_false, succ64 hi (by omega)]
      exact h
abbrev rdC (c : List mC) (i : Int) : mC := rd_T73 c i
theorem cntC_zero (R : mC → Bool) (c : List mC) : ∀ n, cntC R c n = 0 ↔ ∀ i, i < n → ¬ R (rdC c (i : Int)) = true
  | 0 => iff_of_true rfl (fun i hi => absurd hi (Nat.not_lt_zero _))
  | n + 1 => by
    have ih := cntC_zero R c n
    simp only [cntC]
    constructor
    · intro h i hi
      by_cases e : i = n
      · subst e
        intro hr
        rw [if_pos hr] at h
        omega
      · exact ih.mp (by omega) i (by omega)
    · intro h
      rw [ih.mpr (fun i hi => h i (by omega)), if_neg (h n (by omega))]
theorem cntC_one (R : mC → Bool) (c : List mC) {m : Nat} (hm : R (rdC c (m : Int)) = true) : ∀ n, m < n → (cntC R c n = 1 ↔ ∀ i, i < n → R (rdC c (i : Int)) = true → i = m)
  | 0, h => absurd h (Nat.not_lt_zero _)
  | n + 1, h => by
    simp only [cntC]
    by_cases e : m = n
    · subst e
      rw [if_pos hm]
      have z := cntC_zero R c m
      constructor
      · intro a i hi hr
        apply Classical.byContradiction
        intro hn
        exact z.mp (by omega) i (by omega) hr
      · intro a
        rw [z.mpr (fun i hi hr => by have := a i (by omega) hr; omega)]
    · have ih := cntC_one R c hm n (by omega)
      have pos : cntC R c n ≠ 0 := fun a => (cntC_zero R c n).mp a m (by omega) hm
      constructor
      · intro a i hi hr
        by_cases f : i = n
        · subst f
          rw [if_pos hr] at a
          omega
        · refine ih.mp ?_ i (by omega) hr
          by_cases g : R (rdC c (n : Int)) = true
          · rw [if_pos g] at a; omega
          · rw [if_neg g] at a; omega
      · intro a
        have g : ¬ R (rdC c (n : Int)) = true := fun g => by have := a n (by omega) g; omega
        rw [if_neg g, ih.mpr (fun i hi hr => a i (by omega) hr)]
def lastC (c : List mC) (a : Int) : Nat → Int
  | 0 => -1
  | i + 1 => if (rdC c (i : Int)).f0 = a then (i : Int) else lastC c a i
theorem lastC_in (c : List mC) (a : Int) : ∀ n, -1 ≤ lastC c a n ∧ lastC c a n < (n : Int) ∧ (0 ≤ lastC c a n → (rdC c (lastC c a n)).f0 = a)
  | 0 => by simp only [lastC]; omega
  | n + 1 => by
    obtain ⟨h1, h2, h3⟩ := lastC_in c a n
    simp only [lastC]
    split
    · rename_i h; exact ⟨by omega, by omega, fun _ => h⟩
    · exact ⟨h1, by omega, h3⟩
def endC (a : Int) (x : mC) : Bool := decide (x.f0 = a ∧ x.f4 ≥ 0)
def opnC (a : Int) (x : mC) : Bool := decide (x.f0 = a ∧ x.f4 < 0)
def opEq (u v : mO) : Bool := ((u.f0) == (v.f0) && (((u.f1) == (v.f1)) && ((u.f2) == (v.f2))))
def nowC (x : mT) (c : List mC) (l : Int) : Prop := 0 ≤ l ∧ (rdC c l).f4 = -1 ∧ opEq (rdC c l).f1 (rd_T69 x.f0 x.f1) = true
def tcP (a : Int) (x : mT) (c : List mC) : Prop := (cntC (endC a) c c.length : Int) = x.f1 ∧ (x.f2 = false → cntC (opnC a) c c.length = 0) ∧ (x.f2 = true → cntC (opnC a) c c.length = 1 ∧ nowC x c (lastC c a c.length))
theorem tcP_spec (a : Int) (x : mT) (c : List mC) : ((∀ (i : Nat) y, c[i]? = some y → y.f0 = a → y.f4 < 0 → x.f2 = true ∧ (i : Int) = lastC c a c.length) ∧ (cntC (endC a) c c.length : Int) = x.f1 ∧ (x.f2 = true → nowC x c (lastC c a c.length))) ↔ tcP a x c := by
  obtain ⟨l1, l2, l3⟩ := lastC_in c a c.length
  have conv : ∀ (P : Nat → Prop), (∀ (i : Nat) y, c[i]? = some y → y.f0 = a → y.f4 < 0 → P i) ↔ (∀ i, i < c.length → opnC a (rdC c (i : Int)) = true → P i) := fun P => by
    constructor
    · intro h i hi hr
      have er : rdC c (i : Int) = c[i] := getD_get (List.getElem?_eq_getElem hi)
      rw [er] at hr
      unfold opnC at hr
      rw [decide_eq_true_iff] at hr
      exact h i _ (List.getElem?_eq_getElem hi) hr.1 hr.2
    · intro h i y hy h1 h2
      have er : rdC c (i : Int) = y := getD_get hy
      refine h i (List.getElem?_eq_some_iff.mp hy).1 ?_
      rw [er]
      unfold opnC
      rw [decide_eq_true_iff]
      exact ⟨h1, h2⟩
  rw [conv]
  unfold tcP
  cases hf : x.f2
  · constructor
    · rintro ⟨p1, p2, _⟩
      exact ⟨p2, fun _ => (cntC_zero _ _ _).mpr (fun i hi hr => Bool.noConfusion (p1 i hi hr).1), fun b => Bool.noConfusion b⟩
    · rintro ⟨p1, p2, _⟩
      exact ⟨fun i hi hr => absurd hr ((cntC_zero _ _ _).mp (p2 rfl) i hi), p1, fun b => Bool.noConfusion b⟩
  · have key : nowC x c (lastC c a c.length) → (cntC (opnC a) c c.length = 1 ↔ ∀ i, i < c.length → opnC a (rdC c (i : Int)) = true → (i : Int) = lastC c a c.length) := fun hn => by
      obtain ⟨n1, n2, n3⟩ := hn
      obtain ⟨m, hm⟩ : ∃ m : Nat, lastC c a c.length = (m : Int) := ⟨(lastC c a c.length).toNat, by omega⟩
      have h0 := l3 n1
      rw [hm] at n2 h0 l2 ⊢
      have hr : opnC a (rdC c (m : Int)) = true := by
        unfold opnC
        rw [decide_eq_true_iff]
        exact ⟨h0, by omega⟩
      rw [cntC_one _ _ hr _ (by omega)]
      exact ⟨fun p i hi h => by have := p i hi h; omega, fun p i hi h => by have := p i hi h; omega⟩
    constructor
    · rintro ⟨p1, p2, p3⟩
      exact ⟨p2, fun b => Bool.noConfusion b, fun _ => ⟨(key (p3 rfl)).mpr (fun i hi hr => (p1 i hi hr).2), p3 rfl⟩⟩
    · rintro ⟨p1, _, p3⟩
      obtain ⟨q1, q2⟩ := p3 rfl
      exact ⟨fun i hi hr => ⟨rfl, (key q2).mp q1 i hi hr⟩, p1, fun _ => q2⟩
theorem spec_l9Last_ev (w : List mW) (d : List mD) (t : List mT) (tm : Int) (c : List mC) (o q : List Int) (s a : Int) (hc : c.length ≤ 1048576) : Ev (fun k => spec_l9Last.f k w d t tm c o q s a) (lastC c a c.length) := by
  have key : ∀ n : Nat, n ≤ c.length → Ev (fun k => spec_l9Last.l0 k a ((n : Int) - 1) w d t tm c o q s) (lastC c a n) := by
    intro n
    induction n with
    | zero =>
      intro _
      refine Ev.shift ?_
      have c0 : ¬ ((0 : Nat) : Int) - 1 ≥ 0 := by omega
      simp only [spec_l9Last.l0, c0, if_false, lastC]
      exact Ev.now _
    | succ n ih =>
      intro hn
      have e0 : ((n + 1 : Nat) : Int) - 1 = (n : Int) := by omega
      have c0 : (n : Int) ≥ 0 := by omega
      have c1 : (0 : Int) ≤ (n : Int) := by omega
      have c2 : (n : Int) < (c.length : Int) := by omega
      have e1 : wrap64 ((n : Int) - 1) = (n : Int) - 1 := w64 (by omega) (by omega)
      rw [e0]
      refine Ev.shift ?_
      simp only [spec_l9Last.l0, c0, c1, c2, if_true, lastC, e1]
      by_cases h : (rd_T73 c (n : Int)).f0 = a
      · rw [if_pos h]
        exact Ev.pos h (Ev.now _)
      · rw [if_neg h]
        exact Ev.neg h (ih (by omega))
  have := key c.length (Nat.le_refl _)
  have hww : wrap64 ((c.length : Int) - 1) = (c.length : Int) - 1 := w64 (by omega) (by omega)
  simp only [spec_l9Last.f, hww]
  exact this
theorem spec_l9Thread_b (w : List mW) (d : List mD) (t : List mT) (tm : Int) (c : List mC) (o q : List Int) (s : Int) (j : Nat) (x : mT) (hx : t[j]? = some x) (hn : thrN x) (hc : c.length ≤ 1048576) :
    EvB (fun k => spec_l9Thread.f k w d t tm c o q s (j : Int)) (tcP (j : Int) x c) := by
  have hjl : j < t.length := (List.getElem?_eq_some_iff.mp hx).1
  have c0 : (0 : Int) ≤ (j : Int) := by omega
  have c1 : (j : Int) < (t.length : Int) := by omega
  have er : rd_T97 t (j : Int) = x := getD_get hx
  obtain ⟨l1, l2, l3⟩ := lastC_in c (j : Int) c.length
  simp only [spec_l9Thread.f, c0, c1, if_true, er]
  refine EvB.at (spec_l9Last_ev w d t tm c o q s (j : Int) hc) ?_
  refine (EvB.each c (R := fun i y => y.f0 = (j : Int) → y.f4 < 0 → x.f2 = true ∧ (i : Int) = lastC c (j : Int) c.length) (Q := (cntC (endC (j : Int)) c c.length : Int) = x.f1 ∧ (x.f2 = true → nowC x c (lastC c (j : Int) c.length)))
    (g := fun i k => spec_l9Thread.l0 k (j : Int) (lastC c (j : Int) c.length) (cntC (endC (j : Int)) c i : Int) (i : Int) w d t tm c o q s x.f0 x.f1 x.f2 x.f3 x.f4) (fun _ => ?_) (fun i y hy hi hp hb => ?_) (fun i y hy hi hp hr r h => ?_)).iff (tcP_spec (j : Int) x c)
  · refine EvB.shift ?_
    simp only [spec_l9Thread.l0, Int.lt_irrefl, if_false]
    refine EvB.ite (fun h1 => EvB.ite (fun h2 => EvB.ite (fun h3 => ?_) (fun h3 => EvB.no (Ev.now _) (fun p => h3 (p.2 h2).1))) (fun h2 => EvB.yes (Ev.now _) ⟨h1, fun a => absurd a h2⟩)) (fun h1 => EvB.no (Ev.now _) (fun p => h1 p.1))
    refine EvB.pos h3 (EvB.pos (by omega) ?_)
    refine EvB.ite (fun h4 => ?_) (fun h4 => EvB.no (Ev.now _) (fun p => h4 (p.2 h2).2.1))
    have := hn.2.2.1 h2
    have := hn.2.1
    refine EvB.pos (by omega) (EvB.pos (by omega) (EvB.now ?_))
    exact ⟨fun a => ⟨h1, fun _ => ⟨h3, h4, a⟩⟩, fun p => (p.2 h2).2.2⟩
  · have d0 : (0 : Int) ≤ (i : Int) := by omega
    have d1 : (i : Int) < (c.length : Int) := by omega
    have ec : rd_T73 c (i : Int) = y := getD_get hy
    have h1 : y.f0 = (j : Int) := Classical.byContradiction fun a => hb fun b => absurd b a
    have h2 : y.f4 < 0 := Classical.byContradiction fun a => hb fun _ b => absurd b a
    have h3 : ¬ y.f4 ≥ 0 := by omega
    refine Ev.shift ?_
    simp only [spec_l9Thread.l0, d0, d1, if_true, ec]
    refine Ev.pos h1 (Ev.neg h3 ?_)
    by_cases h4 : x.f2 = true
    · exact Ev.pos h4 (Ev.neg (fun a => hb fun _ _ => ⟨h4, a⟩) (Ev.now _))
    · exact Ev.neg h4 (Ev.now _)
  · have d0 : (0 : Int) ≤ (i : Int) := by omega
    have d1 : (i : Int) < (c.length : Int) := by omega
    have ec : rd_T73 c (i : Int) = y := getD_get hy
    have hle := cntC_le (endC (j : Int)) c i
    refine Ev.shift ?_
    simp only [spec_l9Thread.l0, d0, d1, if_true, ec, succ64 hi (by omega)]
    simp only [cntC, ec] at h
    by_cases h1 : y.f0 = (j : Int)
    · refine Ev.pos h1 ?_
      by_cases h2 : y.f4 ≥ 0
      · have e1 : wrap64 ((cntC (endC (j : Int)) c i : Int) + 1) = ((cntC (endC (j : Int)) c i + 1 : Nat) : Int) := by rw [w64 (by omega) (by omega)]; omega
        have e2 : endC (j : Int) y = true := by unfold endC; rw [decide_eq_true_iff]; exact ⟨h1, h2⟩
        simp only [e2, if_true] at h
        simp only [e1]
        exact Ev.pos h2 h
      · have e2 : ¬ endC (j : Int) y = true := by unfold endC; rw [decide_eq_true_iff]; exact fun a => h2 a.2
        simp only [e2, if_false, Nat.add_zero] at h
        obtain ⟨g1, g2⟩ := hr h1 (by omega)
        exact Ev.neg h2 (Ev.pos g1 (Ev.pos g2 h))
    · have e2 : ¬ endC (j : Int) y = true := by unfold endC; rw [decide_eq_true_iff]; exact fun a => h1 a.1
      simp only [e2, if_false, Nat.add_zero] at h
      exact Ev.neg h1 h
theorem impl_callsOk_b (w : List mW) (d : List mD) (t : List mT) (tm : Int) (c : List mC) (o q : List Int) (s : Int) (j : Nat) (x : mT) (hx : t[j]? = some x) (hn : thrN x) (hc : c.length ≤ 1048576) :
    EvB (fun k => impl_callsOk.f k w d t tm c o q s (j : Int)) (tcP (j : Int) x c) := by
  have hjl : j < t.length := (List.getElem?_eq_some_iff.mp hx).1
  have c0 : (0 : Int) ≤ (j : Int) := by omega
  have c1 : (j : Int) < (t.length : Int) := by omega
  have er : rd_T97 t (j : Int) = x := getD_get hx
  obtain ⟨l1, l2, l3⟩ := lastC_in c (j : Int) c.length
  simp only [impl_callsOk.f, c0, c1, if_true, er]
  refine (EvB.each c (R := fun _ _ => True) (Q := tcP (j : Int) x c)
    (g := fun i k => impl_callsOk.l0 k (j : Int) (lastC c (j : Int) i) (cntC (endC (j : Int)) c i : Int) (cntC (opnC (j : Int)) c i : Int) c (c.length : Int) (i : Int) w d t tm c o q s x.f0 x.f1 x.f2 x.f3 x.f4) (fun _ => ?_) (fun i y hy hi hp hb => absurd trivial hb) (fun i y hy hi hp hr r h => ?_)).iff ⟨fun a => a.2, fun a => ⟨fun _ _ _ => trivial, a⟩⟩
  · refine EvB.shift ?_
    simp only [impl_callsOk.l0, Int.lt_irrefl, if_false]
    refine EvB.ite (fun h1 => EvB.ite (fun h2 => EvB.ite (fun h3 => EvB.ite (fun h5 => ?_) (fun h5 => EvB.no (Ev.now _) (fun p => h5 (by have := (p.2.2 h2).1; omega)))) (fun h3 => EvB.no (Ev.now _) (fun p => h3 (p.2.2 h2).2.1))) (fun h2 => EvB.now ?_)) (fun h1 => EvB.no (Ev.now _) (fun p => h1 p.1))
    · refine EvB.pos h3 (EvB.pos (by omega) ?_)
      refine EvB.ite (fun h4 => ?_) (fun h4 => EvB.no (Ev.now _) (fun p => h4 (p.2.2 h2).2.2.1))
      have := hn.2.2.1 h2
      have := hn.2.1
      refine EvB.pos (by omega) (EvB.pos (by omega) (EvB.now ?_))
      exact ⟨fun a => ⟨h1, fun b => absurd h2 (by rw [b]; decide), fun _ => ⟨by omega, h3, h4, a⟩⟩, fun p => (p.2.2 h2).2.2.2⟩
    · rw [beq_iff_eq]
      have h2' : x.f2 = false := by simpa using h2
      exact ⟨fun a => ⟨h1, fun _ => by omega, fun b => absurd b h2⟩, fun p => by have := p.2.1 h2'; omega⟩
  · have d0 : (0 : Int) ≤ (i : Int) := by omega
    have d1 : (i : Int) < (c.length : Int) := by omega
    have ec : rd_T73 c (i : Int) = y := getD_get hy
    have hle := cntC_le (endC (j : Int)) c i
    have hle2 := cntC_le (opnC (j : Int)) c i
    refine Ev.shift ?_
    simp only [impl_callsOk.l0, d0, d1, if_true, ec, succ64 hi (by omega)]
    simp only [cntC, lastC, rdC, ec] at h
    by_cases h1 : y.f0 = (j : Int)
    · simp only [h1, if_true] at h
      refine Ev.pos h1 ?_
      by_cases h2 : y.f4 ≥ 0
      · have e1 : wrap64 ((cntC (endC (j : Int)) c i : Int) + 1) = ((cntC (endC (j : Int)) c i + 1 : Nat) : Int) := by rw [w64 (by omega) (by omega)]; omega
        have e2 : endC (j : Int) y = true := by unfold endC; rw [decide_eq_true_iff]; exact ⟨h1, h2⟩
        have e3 : ¬ opnC (j : Int) y = true := by unfold opnC; rw [decide_eq_true_iff]; exact fun a => absurd a.2 (by omega)
        simp only [e2, e3, if_true, if_false, Nat.add_zero] at h
        simp only [e1]
        exact Ev.pos h2 h
      · have e1 : wrap64 ((cntC (opnC (j : Int)) c i : Int) + 1) = ((cntC (opnC (j : Int)) c i + 1 : Nat) : Int) := by rw [w64 (by omega) (by omega)]; omega
        have e2 : ¬ endC (j : Int) y = true := by unfold endC; rw [decide_eq_true_iff]; exact fun a => h2 a.2
        have e3 : opnC (j : Int) y = true := by unfold opnC; rw [decide_eq_true_iff]; exact ⟨h1, by omega⟩
        simp only [e2, e3, if_true, if_false, Nat.add_zero] at h
        simp only [e1]
        exact Ev.neg h2 h
    · have e2 : ¬ endC (j : Int) y = true := by unfold endC; rw [decide_eq_true_iff]; exact fun a => h1 a.1
      have e3 : ¬ opnC (j : Int) y = true := by unfold opnC; rw [decide_eq_true_iff]; exact fun a => h1 a.1
      simp only [h1, e2, e3, if_false, Nat.add_zero] at h
      exact Ev.neg h1 h
def smM (w : List mW) (d : List mD) (t : List mT) (c : List mC) (o q : List Int) : Prop :=
  w.length ≤ 1048576 ∧ d.length ≤ 1048576 ∧ smD d ∧ t.length ≤ 1048576 ∧ (∀ x ∈ t, smT x) ∧ c.length ≤ 1048576 ∧ o.length ≤ 1048576 ∧ q.length ≤ 1048576
def machP (w : List mW) (d : List mD) (t : List mT) (tm : Int) (c : List mC) (o q : List Int) (s : Int) : Prop :=
  memP w d ∧ d.length = t.length ∧ (0 ≤ tm ∧ tm ≤ 100000) ∧ okB q 0 s = true ∧ ((∀ x ∈ c, callP t.length tm x) ∧ c.length ≤ 40 ∧ ordersP c o) ∧ ∀ (i : Nat) x, t[i]? = some x → thrP t.length x ∧ tcP (i : Int) x c
theorem spec_MachineOk_b (w : List mW) (d : List mD) (t : List mT) (tm : Int) (c : List mC) (o q : List Int) (s : Int) (h : smM w d t c o q) : EvB (fun k => spec_MachineOk.f k w d t tm c o q s) (machP w d t tm c o q s) := by
  obtain ⟨s1, s2, s3, s4, s5, s6, s7, s8⟩ := h
  have bad : Ev (fun k => spec_MachineOk.j0 k true w d t tm c o q s) false := Ev.shift (by simp only [spec_MachineOk.j0, if_true]; exact Ev.now _)
  simp only [spec_MachineOk.f, specIn_eq, Option.bind_some, decide_eq_true_eq]
  refine EvB.bind (spec_MemOk_b w d s1 s2 s3) (fun h1 => EvB.pos rfl ?_) (fun h1 => EvB.neg (by decide) (EvB.no bad (fun p => h1 p.1)))
  refine EvB.ite (fun h2 => EvB.ite (fun h3 => ?_) (fun h3 => EvB.no bad (fun p => h3 p.2.2.1))) (fun h2 => EvB.no bad (fun p => h2 (by rw [p.2.1])))
  refine EvB.at (spec_RowsOk_ev q s s8) ?_
  refine EvB.ite (fun h4 => ?_) (fun h4 => EvB.no bad (fun p => h4 p.2.2.2.1))
  refine EvB.bind (spec_l9Calls_b w d t tm c o q s s4 s6 s7) (fun h5 => ?_) (fun h5 => EvB.no bad (fun p => h5 p.2.2.2.2.1))
  refine EvB.shift ?_
  simp only [Bool.not_true, spec_MachineOk.j0, Bool.false_eq_true, if_false]
  refine (EvB.each t (R := fun i x => thrP t.length x ∧ tcP (i : Int) x c) (Q := True) (g := fun i k => spec_MachineOk.l0 k (i : Int) w d t tm c o q s) (fun _ => ?_) (fun i x hx hi hp hn => ?_) (fun i x hx hi hp hr r g => ?_)).iff ⟨fun a => ⟨h1, by omega, h3, h4, h5, a.1⟩, fun a => ⟨a.2.2.2.2.2, trivial⟩⟩
  · refine EvB.yes (Ev.shift ?_) trivial
    simp only [spec_MachineOk.l0, Int.lt_irrefl, if_false]
    exact Ev.now _
  · have c0 : (0 : Int) ≤ (i : Int) := by omega
    have c1 : (i : Int) < (t.length : Int) := by omega
    have er : rd_T97 t (i : Int) = x := getD_get hx
    refine Ev.shift ?_
    simp only [spec_MachineOk.l0, c0, c1, if_true, er]
    refine EvB.then_ (spec_ThreadOk_b t.length x (s5 x (List.mem_of_getElem? hx))) (fun g1 => Ev.pos rfl ?_) (fun g1 => Ev.neg (by decide) (Ev.now _))
    exact Ev.bind ((spec_l9Thread_b w d t tm c o q s i x hx g1.1 s6).nval (fun a => hn ⟨g1, a⟩)) (Ev.neg (by decide) (Ev.now _))
  · have c0 : (0 : Int) ≤ (i : Int) := by omega
    have c1 : (i : Int) < (t.length : Int) := by omega
    have er : rd_T97 t (i : Int) = x := getD_get hx
    refine Ev.shift ?_
    simp only [spec_MachineOk.l0, c0, c1, if_true, er, succ64 hi (by omega)]
    refine Ev.bind ((spec_ThreadOk_b t.length x (s5 x (List.mem_of_getElem? hx))).val hr.1) (Ev.pos rfl ?_)
    exact Ev.bind ((spec_l9Thread_b w d t tm c o q s i x hx hr.1.1 s6).val hr.2) (Ev.pos rfl g)
theorem when_eq (x : mC) (a tm : Int) (w : List mW) (d : List mD) (t : List mT) (c : List mC) (o q : List Int) (s : Int) : EvB (fun _ => impl_MachineOk_1.f x.f0 x.f1.f0 x.f1.f1 x.f1.f2 x.f2 x.f3 x.f4 x.f5.f0 x.f5.f1 a w d t tm c o q s) (a = -1 ∨ (x.f2 ≤ a ∧ a ≤ tm)) := by
  simp only [impl_MachineOk_1.f, implFrom_eq, Option.bind_some]
  refine EvB.ite (fun h => EvB.yes (Ev.now _) (.inl h)) (fun h => EvB.now ?_)
  rw [decide_eq_true_iff]
  exact ⟨.inr, fun p => p.elim (fun b => absurd b h) id⟩
theorem impl_calls_l1 (w : List mW) (d : List mD) (t : List mT) (tm : Int) (c : List mC) (o q : List Int) (s : Int) (h : smM w d t c o q) : EvB (fun k => impl_MachineOk.l1 k (t.length : Int) t (t.length : Int) 0 w d t tm c o q s) ((∀ (i : Nat) x, t[i]? = some x → thrP t.length x ∧ tcP (i : Int) x c) ∧ ordersP c o) := by
  obtain ⟨s1, s2, s3, s4, s5, s6, s7, s8⟩ := h
  refine EvB.each t (R := fun i x => thrP t.length x ∧ tcP (i : Int) x c) (g := fun i k => impl_MachineOk.l1 k (t.length : Int) t (t.length : Int) (i : Int) w d t tm c o q s) (fun _ => ?_) (fun i x hx hi hp hn => ?_) (fun i x hx hi hp hr r g => ?_)
  · refine EvB.shift ?_
    simp only [impl_MachineOk.l1, Int.lt_irrefl, if_false]
    exact EvB.bind (impl_orderOk_b w d t tm c o q s s7 s6) (fun a => EvB.yes (Ev.now _) a) (fun a => EvB.no (Ev.now _) a)
  · have c0 : (0 : Int) ≤ (i : Int) := by omega
    have c1 : (i : Int) < (t.length : Int) := by omega
    have er : rd_T97 t (i : Int) = x := getD_get hx
    refine Ev.shift ?_
    simp only [impl_MachineOk.l1, c0, c1, if_true, er]
    refine EvB.then_ (impl_ThreadOk_b t.length (by omega) x (s5 x (List.mem_of_getElem? hx))) (fun g1 => Ev.pos rfl ?_) (fun g1 => Ev.neg (by decide) (Ev.now _))
    exact Ev.bind ((impl_callsOk_b w d t tm c o q s i x hx g1.1 s6).nval (fun a => hn ⟨g1, a⟩)) (Ev.neg (by decide) (Ev.now _))
  · have c0 : (0 : Int) ≤ (i : Int) := by omega
    have c1 : (i : Int) < (t.length : Int) := by omega
    have er : rd_T97 t (i : Int) = x := getD_get hx
    refine Ev.shift ?_
    simp only [impl_MachineOk.l1, c0, c1, if_true, er, succ64 hi (by omega)]
    refine Ev.bind ((impl_ThreadOk_b t.length (by omega) x (s5 x (List.mem_of_getElem? hx))).val hr.1) (Ev.pos rfl ?_)
    exact Ev.bind ((impl_callsOk_b w d t tm c o q s i x hx hr.1.1 s6).val hr.2) (Ev.pos rfl g)
theorem impl_MachineOk_b (w : List mW) (d : List mD) (t : List mT) (tm : Int) (c : List mC) (o q : List Int) (s : Int) (h : smM w d t c o q) : EvB (fun k => impl_MachineOk.f k w d t tm c o q s) (machP w d t tm c o q s) := by
  have h0 := h
  obtain ⟨s1, s2, s3, s4, s5, s6, s7, s8⟩ := h
  have hww : wrap64 ((t.length : Int) - 1) = (t.length : Int) - 1 := w64 (by omega) (by omega)
  have bad : Ev (fun k => impl_MachineOk.j0 k (t.length : Int) true w d t tm c o q s) false := Ev.shift (by simp only [impl_MachineOk.j0, if_true]; exact Ev.now _)
  simp only [impl_MachineOk.f, implFrom_eq, Option.bind_some, decide_eq_true_eq]
  refine EvB.bind (impl_MemOk_b w d s1 s2 s3) (fun h1 => EvB.pos rfl ?_) (fun h1 => EvB.neg (by decide) (EvB.no bad (fun p => h1 p.1)))
  refine EvB.ite (fun h2 => EvB.ite (fun h3 => ?_) (fun h3 => EvB.no bad (fun p => h3 p.2.2.1))) (fun h2 => EvB.no bad (fun p => h2 (by rw [p.2.1])))
  refine EvB.ite (fun h6 => EvB.no bad (fun p => absurd p.2.2.2.2.1.2.1 (by omega))) (fun h6 => ?_)
  refine EvB.at (impl_RowsOk_ev q s s8) ?_
  cases h4 : okB q 0 s
  · exact EvB.no bad (fun p => by rw [p.2.2.2.1] at h4; exact Bool.noConfusion h4)
  · refine EvB.shift ?_
    simp only [Bool.not_true, impl_MachineOk.j0, Bool.false_eq_true, if_false]
    refine (EvB.each c (R := fun i x => callP t.length tm x) (Q := (∀ (i : Nat) x, t[i]? = some x → thrP t.length x ∧ tcP (i : Int) x c) ∧ ordersP c o) (g := fun i k => impl_MachineOk.l0 k (t.length : Int) c (c.length : Int) (i : Int) w d t tm c o q s) (fun _ => ?_) (fun i x hx hi hp hn => ?_) (fun i x hx hi hp hr r g => ?_)).iff ?_
    · refine EvB.shift ?_
      simp only [impl_MachineOk.l0, Int.lt_irrefl, if_false]
      exact impl_calls_l1 w d t tm c o q s h0
    · have c0 : (0 : Int) ≤ (i : Int) := by omega
      have c1 : (i : Int) < (c.length : Int) := by omega
      have er : rd_T73 c (i : Int) = x := getD_get hx
      refine Ev.shift ?_
      simp only [impl_MachineOk.l0, c0, c1, if_true, er, implFrom_eq, Option.bind_some, decide_eq_true_eq, hww]
      by_cases g1 : 0 ≤ x.f0 ∧ x.f0 ≤ (t.length : Int) - 1
      · refine Ev.pos g1 (Ev.bind (impl_OpOk_ev _ _ _) ?_)
        by_cases g2 : opP x.f1
        · refine Ev.pos g2 ?_
          by_cases g3 : 0 ≤ x.f2 ∧ x.f2 ≤ tm
          · refine Ev.pos g3 (EvB.then_ (when_eq x x.f3 tm w d t c o q s) (fun g4 => Ev.pos rfl ?_) (fun g4 => Ev.neg (by decide) (Ev.now _)))
            exact Ev.bind ((when_eq x x.f4 tm w d t c o q s).nval (fun g5 => hn ⟨g1, g2, g3, g4, g5⟩)) (Ev.neg (by decide) (Ev.now _))
          · exact Ev.neg g3 (Ev.now _)
        · exact Ev.neg g2 (Ev.now _)
      · exact Ev.neg g1 (Ev.now _)
    · have c0 : (0 : Int) ≤ (i : Int) := by omega
      have c1 : (i : Int) < (c.length : Int) := by omega
      have er : rd_T73 c (i : Int) = x := getD_get hx
      obtain ⟨g1, g2, g3, g4, g5⟩ := hr
      refine Ev.shift ?_
      simp only [impl_MachineOk.l0, c0, c1, if_true, er, implFrom_eq, Option.bind_some, decide_eq_true_eq, hww, succ64 hi (by omega)]
      exact Ev.pos g1 (Ev.bind (impl_OpOk_ev _ _ _) (Ev.pos g2 (Ev.pos g3 (Ev.bind ((when_eq x x.f3 tm w d t c o q s).val g4) (Ev.pos rfl (Ev.bind ((when_eq x x.f4 tm w d t c o q s).val g5) (Ev.pos rfl g)))))))
    · rw [each_mem]
      exact ⟨fun a => ⟨h1, by omega, h3, h4, ⟨a.1, by omega, a.2.2⟩, a.2.1⟩, fun a => ⟨a.2.2.2.2.1.1, a.2.2.2.2.2, a.2.2.2.2.1.2.2⟩⟩
end Go.Proofs.YtmljebgideecjaaGreat.P2
