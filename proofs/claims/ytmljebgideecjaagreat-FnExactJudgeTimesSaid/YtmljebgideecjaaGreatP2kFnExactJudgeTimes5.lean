/- A part of the proof of the law FnExactJudgeTimes: texts of this seat, merged (words, printed functions of the program, plain lemmas). Conditions: none of its own. -/
import Derived.Test.YtmljebgideecjaaGreatP2kFnExactJudgeTimes4
set_option linter.unusedSimpArgs false
set_option linter.unusedVariables false
namespace Go.Proofs.YtmljebgideecjaaGreat.P2
open Go.Proofs.YtmljebgideecjaaGreatZ Go.RowKit Go.Proofs.YtmljebgideecjaaGreatW.PrintWords Go.Proofs.YtmljebgideecjaaGreatW.PrintLast Go.Proofs.YtmljebgideecjaaGreatW.PrintMore
attribute [local go_sem] max2_int min2_int max_two min_two max_three min_three max_four min_four   -- for this text's walks alone
mutual
def impl_orderOk.l0 : Nat → Int → List (S73) → Int → Int → List (S140) → List (S162) → List (S97) → Int → List (S73) → List Int → List Int → Int → Option (Bool)
  | 0, _, _, _, _, _, _, _, _, _, _, _, _ => none
  | k + 1, x3, x9, x10, x11, x102000, x102001, x102002, x102003, x102004, x102005, x102006, x102007 => if x11 < x10 then (if 0 ≤ x11 then (if x11 < (x9.length : Int) then (if ((rd_T73 x9 x11).f3) ≥ 0 then (impl_orderOk.l0 k (wrap64 (x3 + 1)) x9 x10 (wrap64 (x11 + 1)) x102000 x102001 x102002 x102003 x102004 x102005 x102006 x102007) else (impl_orderOk.l0 k x3 x9 x10 (wrap64 (x11 + 1)) x102000 x102001 x102002 x102003 x102004 x102005 x102006 x102007)) else (none)) else (none)) else (impl_orderOk.l1 k x3 x102005 (x102005.length : Int) 0 x102000 x102001 x102002 x102003 x102004 x102005 x102006 x102007)
def impl_orderOk.l1 : Nat → Int → List Int → Int → Int → List (S140) → List (S162) → List (S97) → Int → List (S73) → List Int → List Int → Int → Option (Bool)
  | 0, _, _, _, _, _, _, _, _, _, _, _, _ => none
  | k + 1, x3, x22, x23, x24, x102000, x102001, x102002, x102003, x102004, x102005, x102006, x102007 => if x24 < x23 then (if 0 ≤ x24 then (if x24 < (x22.length : Int) then ((impl_from.f (rd x22 x24) 0 (wrap64 ((x102004.length : Int) - 1))).bind fun t105 => (if t105 = true then (if 0 ≤ (rd x22 x24) then (if (rd x22 x24) < (x102004.length : Int) then (if ((rd_T73 x102004 (rd x22 x24)).f3) < 0 then (some false) else (if x24 ≤ (x102005.length : Int) then ((slices_Contains_int_int.f k (x102005.take (x24 : Int).toNat) (rd x22 x24)).bind fun t108 => (if t108 = true then (some false) else (if x24 > 0 then (if 0 ≤ (wrap64 (x24 - 1)) then (if (wrap64 (x24 - 1)) < (x102005.length : Int) then (if 0 ≤ (rd x102005 (wrap64 (x24 - 1))) then (if (rd x102005 (wrap64 (x24 - 1))) < (x102004.length : Int) then (if ((rd_T73 x102004 (rd x102005 (wrap64 (x24 - 1)))).f3) > ((rd_T73 x102004 (rd x22 x24)).f3) then (some false) else (impl_orderOk.l1 k x3 x22 x23 (wrap64 (x24 + 1)) x102000 x102001 x102002 x102003 x102004 x102005 x102006 x102007)) else (none)) else (none)) else (none)) else (none)) else (impl_orderOk.l1 k x3 x22 x23 (wrap64 (x24 + 1)) x102000 x102001 x102002 x102003 x102004 x102005 x102006 x102007)))) else (none))) else (none)) else (none)) else (some false))) else (none)) else (none)) else (some (x3 == (x102005.length : Int)))
end
def impl_orderOk.f (k : Nat) (l0_0 : List (S140)) (l0_1 : List (S162)) (l0_2 : List (S97)) (a0_3 : Int) (l0_4 : List (S73)) (l0_5 : List Int) (l0_6 : List Int) (a0_7 : Int) : Option (Bool) := impl_orderOk.l0 k 0 l0_4 (l0_4.length : Int) 0 l0_0 l0_1 l0_2 a0_3 l0_4 l0_5 l0_6 a0_7
def impl_orderOk.T11 : Bool × List (List Nat × List Nat) := (true, [([], []), ([], []), ([1], [1]), ([2], [2]), ([3], [3]), ([0, 4], [0, 4]), ([5], [5]), ([6, 5], [6]), ([7], [7]), ([8, 7], [7, 8]), ([7], [7]), ([9, 10, 7], [7, 9, 10]), ([11, 7], [7, 11]), ([12, 7], [7, 12]), ([13, 7], [7, 13]), ([7, 14], [7, 14]), ([15, 7], [15]), ([16], [16]), ([17, 16], [16, 17]), ([16], [16]), ([18, 19, 16], [16, 18, 19]), ([16], [16]), ([20, 21, 16, 16], [16, 20, 21]), ([16, 22], [16, 22]), ([23, 22], [23]), ([24], [24]), ([25, 24], [24, 25]), ([26, 24, 24], [24, 26]), ([27], [27]), ([28, 27], [27, 28]), ([27], [27]), ([30, 27], [27, 30]), ([27], [27]), ([32, 27], [27, 32]), ([31, 33, 27], [27, 31, 33]), ([34, 27], [27, 34]), ([29, 35, 27], [27, 29, 35]), ([36, 27], [27, 36]), ([37, 27], [27, 37]), ([27], [27]), ([39, 27], [27, 39]), ([27], [27]), ([40, 41, 27], [27, 40, 41]), ([42, 27], [27, 42]), ([43, 27], [27, 43]), ([38, 44, 27], [27, 38, 44]), ([27, 45, 24], [24, 27, 45]), ([24, 46], [24, 46])])
def impl_orderOk.B11 : List Nat := [0, 0, 2, 6, 14, 31, 63, 127, 255, 511, 255, 2047, 4095, 8191, 16383, 32767, 65535, 131071, 262143, 131071, 1048575, 131071, 4194303, 8388607, 16777215, 33554431, 67108863, 134217727, 268435455, 536870911, 268435455, 1342177279, 268435455, 4563402751, 16374562815, 33554431999, 68719476735, 137438953471, 274877906943, 268435455, 550024249343, 268435455, 3848559132671, 8246605643775, 17042698665983, 35184372088831, 70368744177663, 140737488355327]
theorem impl_orderOk.tab11 : rtab .any (opsOf Tryz.f108 11) = impl_orderOk.T11 := by kernel_rfl
theorem impl_orderOk.bits11 : waitsOk impl_orderOk.T11.2 impl_orderOk.B11 = true := by kernel_rfl
set_option maxHeartbeats 8000000 in
set_option maxRecDepth 100000 in
theorem impl_orderOk.calls (k : Nat) (A0_0 : Option Addr) (c0_0 : Nat) (l0_0 : List (S140)) (A0_1 : Option Addr) (c0_1 : Nat) (l0_1 : List (S162)) (A0_2 : Option Addr) (c0_2 : Nat) (l0_2 : List (S97)) (a0_3 : Int) (A0_4 : Option Addr) (c0_4 : Nat) (l0_4 : List (S73)) (A0_5 : Option Addr) (c0_5 : Nat) (l0_5 : List Int) (A0_6 : Option Addr) (c0_6 : Nat) (l0_6 : List Int) (a0_7 : Int) (r : Bool) (w : World) (hr0_0 : Kd.C k140 w A0_0 l0_0.length l0_0) (hc0_0 : l0_0.length ≤ c0_0) (hr0_1 : Kd.C k162 w A0_1 l0_1.length l0_1) (hc0_1 : l0_1.length ≤ c0_1) (hr0_2 : Kd.C k97 w A0_2 l0_2.length l0_2) (hc0_2 : l0_2.length ≤ c0_2) (hr0_4 : Kd.C k73 w A0_4 l0_4.length l0_4) (hc0_4 : l0_4.length ≤ c0_4) (hr0_5 : Kd.C (Kd.int .i64) w A0_5 l0_5.length l0_5) (hc0_5 : l0_5.length ≤ c0_5) (hr0_6 : Kd.C (Kd.int .i64) w A0_6 l0_6.length l0_6) (hc0_6 : l0_6.length ≤ c0_6) (h : impl_orderOk.f k l0_0 l0_1 l0_2 a0_3 l0_4 l0_5 l0_6 a0_7 = some r) :
    Calls Tryz.prog 108 #[.agg #[.slice A0_0 l0_0.length c0_0, .slice A0_1 l0_1.length c0_1, .slice A0_2 l0_2.length c0_2, .int .i64 a0_3, .slice A0_4 l0_4.length c0_4, .slice A0_5 l0_5.length c0_5, .slice A0_6 l0_6.length c0_6, .int .i64 a0_7]] w fun e w' => e = .returned (.bool r) ∧ Below w.heap.size w w' := by
  have hu43 := Tryz.underlying43
  have hu73 := Tryz.underlying73
  have HR0_0 := aM hr0_0
  have HC0_0 := aM hc0_0
  clear hr0_0 hc0_0
  have HR0_1 := aM hr0_1
  have HC0_1 := aM hc0_1
  clear hr0_1 hc0_1
  have HR0_2 := aM hr0_2
  have HC0_2 := aM hc0_2
  clear hr0_2 hc0_2
  have HR0_4 := aM hr0_4
  have HC0_4 := aM hc0_4
  clear hr0_4 hc0_4
  have HR0_5 := aM hr0_5
  have HC0_5 := aM hc0_5
  clear hr0_5 hc0_5
  have HR0_6 := aM hr0_6
  have HC0_6 := aM hc0_6
  clear hr0_6 hc0_6
  have HB := aM (Below.refl w.heap.size w)
  have H := h
  unfold impl_orderOk.f at H
  clear h
  have H' := aM H
  clear H
  go_enter Tryz.func108, Tryz.ntmps108
  go_wp2_with (first | (refine boxE 1 #[.slice A0_0 l0_0.length c0_0, .slice A0_1 l0_1.length c0_1, .slice A0_2 l0_2.length c0_2, .int .i64 a0_3, .slice A0_4 l0_4.length c0_4, .slice A0_5 l0_5.length c0_5, .slice A0_6 l0_6.length c0_6, .int .i64 a0_7] 43 ?_; intro gbz1 hg wz1 hbox hb; have BKz1 := aM (hbox); have GWz1 := aG hg HB; have GEz1 := aG hg HB; replace HB := aS HB hb; clear hb hbox hg; obtain ⟨hczz1, hczz2, hczz3, hczz4, hczz5, hczz6, hczz7, hczz8, hfzz1, hfzz2, hfzz3, hfzz4, hfzz5, hfzz6, hfzz7, hfzz8⟩ := cZ8 BKz1.out))
  go_loopg [3, 11] k (fun kq v3 v11 w' => ∃ (x3_1 : Int) (x11_1 : Int), v3 = .int .i64 x3_1 ∧ v11 = .int .i64 x11_1 ∧ Aside0 (impl_orderOk.l0 kq x3_1 l0_4 (l0_4.length : Int) x11_1 l0_0 l0_1 l0_2 a0_3 l0_4 l0_5 l0_6 a0_7 = some r) ∧ Aside0 (kq ≤ k) ∧ Aside0 (w'.heap[gbz1]? = some (.cells #[(.slice A0_0 l0_0.length c0_0), (.slice A0_1 l0_1.length c0_1), (.slice A0_2 l0_2.length c0_2), .int .i64 a0_3, (.slice A0_4 l0_4.length c0_4), (.slice A0_5 l0_5.length c0_5), (.slice A0_6 l0_6.length c0_6), .int .i64 a0_7] 43 (0, 0))) ∧ Aside0 (Below w.heap.size w w'))
  case atStart => exact ⟨(0), (0), rS, rS, H', ⟨Nat.le_refl _⟩, ⟨(bX BKz1.out)⟩, ⟨(hX HB.out)⟩⟩
  case round =>
    clear H'
    try clear p2
    try clear hczz1 hczz2 hczz3 hczz4 hczz5 hczz6 hczz7 hczz8 hfzz1 hfzz2 hfzz3 hfzz4 hfzz5 hfzz6 hfzz7 hfzz8
    obtain ⟨x3_1, x11_1, rfl, rfl, HA, HKy1, BKz1, HB⟩ := hrel
    cases gk with
    | zero => exact absurd HA.out (by simp [impl_orderOk.l0])
    | succ k1 =>
      have H := HA.out
      clear HA
      simp only [impl_orderOk.l0] at H
      by_cases c4 : x11_1 < (l0_4.length : Int)
      · rw [if_pos c4] at H
        have c4b0 := decide_eq_true c4
        clear c4
        replace H := ifP H; obtain ⟨c5, H⟩ := H
        have c5b0 := decide_eq_true c5
        clear c5
        replace H := ifP H; obtain ⟨c6, H⟩ := H
        have c6b0 := decide_eq_true c6
        clear c6
        have px1 : 0 ≤ (x11_1 : Int) := odA
        have qx1 : x11_1 < (l0_4.length : Int) := odA
        obtain ⟨adx1, Ax1, cx1, ex1, hxx1, hxx2, hxx3, hxx4, hxx5, hxx6, hxx7, hxx8, hxx9, hlx1, hix1⟩ := at_T73b HR0_4.out HB.out x11_1 px1 qx1
        cases ex1
        have HRx1 := aM hix1
        have HCx1 := aM hlx1
        clear hix1 hlx1
        replace px1 := eq_true px1
        replace qx1 := eq_true qx1
        go_wp2_with (first | (refine boxE 5 #[.int .i64 0, .int .i64 0, .int .i64 0, .int .i64 0, .int .i64 0, .int .i64 0, .int .i64 0, .int .i64 0, .slice none 0 0] 73 ?_; intro gbx1 hg wx1 hbox hb; have BKx1 := aM (hbox); have GWx1 := aG hg HB; have GEx1 := aG hg HB; have NBx1 := aL hg BKz1; have NBx2 := aR hg BKz1; replace BKz1 := aB BKz1 hb; replace HB := aS HB hb; clear hb hbox hg; have hnbx1 := NBx2.out; have hncx1 := NBx1.out; obtain ⟨hczx1, hczx2, hczx3, hczx4, hczx5, hczx6, hczx7, hczx8, hczx9, hfzx1, hfzx2, hfzx3, hfzx4, hfzx5, hfzx6, hfzx7, hfzx8, hfzx9⟩ := cZ9 BKx1.out; refine Stop.out ?_))
        refine ⟨?_⟩
        by_cases c7 : ((rd_T73 l0_4 x11_1).f3) ≥ 0
        case neg =>
          rw [if_neg c7] at H
          have c7b0 := decide_eq_false c7
          clear c7
          have H' := aM H
          clear H
          go_wp2
          go_roundg k1
          case measure => have := HKy1.out; omega
          case rel => exact ⟨(x3_1), (wrap64 (x11_1 + 1)), rS, rS, H', ⟨by have := HKy1.out; omega⟩, ⟨(bF BKz1.out)⟩, ⟨(hX HB.out)⟩⟩
        rw [if_pos c7] at H
        have c7b0 := decide_eq_true c7
        clear c7
        have H' := aM H
        clear H
        go_wp2
        go_roundg k1
        case measure => have := HKy1.out; omega
        case rel => exact ⟨(wrap64 (x3_1 + 1)), (wrap64 (x11_1 + 1)), rS, rS, H', ⟨by have := HKy1.out; omega⟩, ⟨(bF BKz1.out)⟩, ⟨(hX HB.out)⟩⟩
      rw [if_neg c4] at H
      have c4b0 := decide_eq_false c4
      clear c4
      have H' := aM H
      clear H
      obtain ⟨hczx1, hczx2, hczx3, hczx4, hczx5, hczx6, hczx7, hczx8, hfzx1, hfzx2, hfzx3, hfzx4, hfzx5, hfzx6, hfzx7, hfzx8⟩ := cZ8 BKz1.out
      go_wp2
      go_loopg [24] k1 (fun kq v24 w' => ∃ (x24_2 : Int), v24 = .int .i64 x24_2 ∧ Aside0 (impl_orderOk.l1 kq x3_1 l0_5 (l0_5.length : Int) x24_2 l0_0 l0_1 l0_2 a0_3 l0_4 l0_5 l0_6 a0_7 = some r) ∧ Aside0 (kq ≤ k1) ∧ Aside0 (w'.heap[gbz1]? = some (.cells #[(.slice A0_0 l0_0.length c0_0), (.slice A0_1 l0_1.length c0_1), (.slice A0_2 l0_2.length c0_2), .int .i64 a0_3, (.slice A0_4 l0_4.length c0_4), (.slice A0_5 l0_5.length c0_5), (.slice A0_6 l0_6.length c0_6), .int .i64 a0_7] 43 (0, 0))) ∧ Aside0 (Below w.heap.size w w'))
      case atStart => exact ⟨(0), rS, H', ⟨Nat.le_refl _⟩, ⟨(bX BKz1.out)⟩, ⟨(hX HB.out)⟩⟩
      case round =>
        clear H'
        try clear p1
        try clear q1
        try clear hx1
        try clear p2
        try clear c4
        try clear c4b0
        try clear p6
        try clear p10
        try clear q10
        try clear hx10
        try clear hczx1 hczx2 hczx3 hczx4 hczx5 hczx6 hczx7 hczx8 hfzx1 hfzx2 hfzx3 hfzx4 hfzx5 hfzx6 hfzx7 hfzx8
        try clear hczz1 hczz2 hczz3 hczz4 hczz5 hczz6 hczz7 hczz8 hfzz1 hfzz2 hfzz3 hfzz4 hfzz5 hfzz6 hfzz7 hfzz8
        try clear hx102_0
        try clear hx102_1
        try clear hx102_2
        try clear hx102_3
        try clear hx102_4
        try clear hx102_5
        try clear hx102_6
        try clear hx102_7
        try clear hx102_8
        try clear p102
        try clear q102
        obtain ⟨x24_2, rfl, HA, HKw1, BKz1, HB⟩ := hrel
        cases gk with
        | zero => exact absurd HA.out (by simp [impl_orderOk.l1])
        | succ k2 =>
          have H := HA.out
          clear HA
          simp only [impl_orderOk.l1] at H
          by_cases c15 : x24_2 < (l0_5.length : Int)
          case neg =>
            rw [if_neg c15] at H
            have c15b0 := decide_eq_false c15
            clear c15
            obtain rfl := sI H
            obtain ⟨hczv1, hczv2, hczv3, hczv4, hczv5, hczv6, hczv7, hczv8, hfzv1, hfzv2, hfzv3, hfzv4, hfzv5, hfzv6, hfzv7, hfzv8⟩ := cZ8 BKz1.out
            go_wp2
            go_ret
            exact ⟨rE, (hX HB.out)⟩
          rw [if_pos c15] at H
          have c15b0 := decide_eq_true c15
          clear c15
          replace H := ifP H; obtain ⟨c16, H⟩ := H
          have c16b0 := decide_eq_true c16
          clear c16
          replace H := ifP H; obtain ⟨c17, H⟩ := H
          have c17b0 := decide_eq_true c17
          clear c17
          replace H := bE H; obtain ⟨t105, A18, H⟩ := H
          by_cases c19 : t105 = true
          case neg =>
            replace c19 := Bool.eq_false_iff.mpr c19
            subst c19
            rw [if_neg nft] at H
            obtain rfl := sI H
            have pv1 : 0 ≤ (x24_2 : Int) := odA
            have qv1 : x24_2 < (l0_5.length : Int) := odA
            obtain ⟨adv1, ev1, hxv1⟩ := at_ib HR0_5.out HB.out x24_2 pv1 qv1
            cases ev1
            replace pv1 := eq_true pv1
            replace qv1 := eq_true qv1
            try go_wp2
            replace BKz1 := aM (blk_drew BKz1.out)
            replace HB := aM (below_drew1 HB.out)
            refine start_ (n := 48) (S := fun w' => w'.cell? ⟨gbz1, 0, none⟩ = some (.slice A0_0 l0_0.length c0_0) ∧ w'.cell? ⟨gbz1, 1, none⟩ = some (.slice A0_1 l0_1.length c0_1) ∧ w'.cell? ⟨gbz1, 2, none⟩ = some (.slice A0_2 l0_2.length c0_2) ∧ w'.cell? ⟨gbz1, 3, none⟩ = some (.int .i64 a0_3) ∧ w'.cell? ⟨gbz1, 4, none⟩ = some (.slice A0_4 l0_4.length c0_4) ∧ w'.cell? ⟨gbz1, 5, none⟩ = some (.slice (some adv1) l0_5.length c0_5) ∧ w'.cell? ⟨gbz1, 6, none⟩ = some (.slice A0_6 l0_6.length c0_6) ∧ w'.cell? ⟨gbz1, 7, none⟩ = some (.int .i64 a0_7)) (ds := []) (bm 48 0) (by kernel_rfl) rfl (by kernel_rfl) ⟨cK BKz1.out 0, cK BKz1.out 1, cK BKz1.out 2, cK BKz1.out 3, cK BKz1.out 4, cK BKz1.out 5, cK BKz1.out 6, cK BKz1.out 7⟩ (fun hHeld => ?_); refine with_tabW impl_orderOk.tab11 impl_orderOk.bits11 (fun HT_ HW_ => ?_)
            generalize wr.drew = wv1 at BKz1 HB hHeld ⊢
            refine pZ 0 29 (bm 48 1) HT_.out ?_
            refine pZ 1 30 (bm 48 3) HT_.out ?_
            refine tZ 2 31 (bm 48 7) HT_.out HW_.out hHeld ?_
            refine pZ 3 32 (bm 48 15) HT_.out ?_
            refine pZ 4 33 (bm 48 31) HT_.out ?_
            refine oZ 5 (some 34) (bm 48 63) HT_.out (fun K hK => ?_)
            refine goesN Tryz.func102 #[.int .i64 (rd l0_5 x24_2), .int .i64 0, .int .i64 (wrap64 ((l0_4.length : Int) - 1))] ?_
            with_reducible refine (impl_from.calls _ _ _ _ _ A18.out).mono ?_
            rintro e w' ⟨rfl, ⟨nd, rfl⟩⟩
            refine ⟨_, rfl, ?_⟩
            refine hK.out _ _ ⟨cK BKz1.out 0, cK BKz1.out 1, cK BKz1.out 2, cK BKz1.out 3, cK BKz1.out 4, cK BKz1.out 5, cK BKz1.out 6, cK BKz1.out 7⟩ (fun hHeld => ?_)
            clear hK K
            refine nZ 34 ?_
            refine pZ 6 35 (bm 48 127) HT_.out ?_
            refine pZ 7 36 (bm 48 255) HT_.out ?_
            refine pU 8 37 (bm 48 511) HT_.out ?_
            refine pU 9 38 (bm 48 1023) HT_.out ?_
            refine pU 10 39 (bm 48 2047) HT_.out ?_
            refine pU 11 40 (bm 48 4095) HT_.out ?_
            refine pU 12 41 (bm 48 8191) HT_.out ?_
            refine pU 13 42 (bm 48 16383) HT_.out ?_
            refine pU 14 43 (bm 48 32767) HT_.out ?_
            refine pZ 15 44 (bm 48 65535) HT_.out ?_
            refine pZ 16 45 (bm 48 131071) HT_.out ?_
            refine pU 17 46 (bm 48 262143) HT_.out ?_
            refine pU 18 47 (bm 48 524287) HT_.out ?_
            refine pU 19 48 (bm 48 1048575) HT_.out ?_
            refine pU 20 49 (bm 48 2097151) HT_.out ?_
            refine pU 21 50 (bm 48 4194303) HT_.out ?_
            refine pU 22 51 (bm 48 8388607) HT_.out ?_
            refine pZ 23 52 (bm 48 16777215) HT_.out ?_
            refine pZ 24 53 (bm 48 33554431) HT_.out ?_
            refine pU 25 54 (bm 48 67108863) HT_.out ?_
            refine pU 26 55 (bm 48 134217727) HT_.out ?_
            refine pU 27 56 (bm 48 268435455) HT_.out ?_
            refine pU 28 57 (bm 48 536870911) HT_.out ?_
            refine pU 29 58 (bm 48 1073741823) HT_.out ?_
            refine pU 30 59 (bm 48 2147483647) HT_.out ?_
            refine pU 31 60 (bm 48 4294967295) HT_.out ?_
            refine pU 32 61 (bm 48 8589934591) HT_.out ?_
            refine pU 33 62 (bm 48 17179869183) HT_.out ?_
            refine pU 34 63 (bm 48 34359738367) HT_.out ?_
            refine pU 35 64 (bm 48 68719476735) HT_.out ?_
            refine pU 36 65 (bm 48 137438953471) HT_.out ?_
            refine pU 37 66 (bm 48 274877906943) HT_.out ?_
            refine pU 38 67 (bm 48 549755813887) HT_.out ?_
            refine pU 39 68 (bm 48 1099511627775) HT_.out ?_
            refine pU 40 69 (bm 48 2199023255551) HT_.out ?_
            refine pU 41 70 (bm 48 4398046511103) HT_.out ?_
            refine pU 42 71 (bm 48 8796093022207) HT_.out ?_
            refine pU 43 72 (bm 48 17592186044415) HT_.out ?_
            refine pU 44 73 (bm 48 35184372088831) HT_.out ?_
            refine pU 45 74 (bm 48 70368744177663) HT_.out ?_
            refine pU 46 75 (bm 48 140737488355327) HT_.out ?_
            refine pZ 47 76 (bm 48 281474976710655) HT_.out ?_
            refine done_ (done_of HT_.out (by kernel_rfl)) ?_
            try go_wp2
            go_ret
            exact ⟨rE, (hX HB.out)⟩
          subst c19
          rw [if_pos rfl] at H
          replace H := ifP H; obtain ⟨c20, H⟩ := H
          have c20b0 := decide_eq_true c20
          clear c20
          replace H := ifP H; obtain ⟨c21, H⟩ := H
          have c21b0 := decide_eq_true c21
          clear c21
          by_cases c22 : ((rd_T73 l0_4 (rd l0_5 x24_2)).f3) < 0
          · rw [if_pos c22] at H
            have c22b0 := decide_eq_true c22
            clear c22
            obtain rfl := sI H
            have pv1 : 0 ≤ (x24_2 : Int) := odA
            have qv1 : x24_2 < (l0_5.length : Int) := odA
            obtain ⟨adv1, ev1, hxv1⟩ := at_ib HR0_5.out HB.out x24_2 pv1 qv1
            cases ev1
            replace pv1 := eq_true pv1
            replace qv1 := eq_true qv1
            try go_wp2
            replace BKz1 := aM (blk_drew BKz1.out)
            replace HB := aM (below_drew1 HB.out)
            have pv2 : 0 ≤ ((rd l0_5 x24_2) : Int) := odA
            have qv2 : (rd l0_5 x24_2) < (l0_4.length : Int) := odA
            obtain ⟨adv2, Av1, cv1, ev2, hxv2, hxv3, hxv4, hxv5, hxv6, hxv7, hxv8, hxv9, hxv10, hlv1, hiv1⟩ := at_T73 HR0_4.out (rd l0_5 x24_2) pv2 qv2
            have hwv1 := hxv10
            have hwv2 := hxv9
            have hwv3 := hxv8
            have hwv4 := hxv7
            have hwv5 := hxv6
            have hwv6 := hxv5
            have hwv7 := hxv4
            have hwv8 := hxv3
            have hwv9 := hxv2
            cases ev2
            replace hxv2 := bc HB.out hxv2
            replace hxv3 := bc HB.out hxv3
            replace hxv4 := bc HB.out hxv4
            replace hxv5 := bc HB.out hxv5
            replace hxv6 := bc HB.out hxv6
            replace hxv7 := bc HB.out hxv7
            replace hxv8 := bc HB.out hxv8
            replace hxv9 := bc HB.out hxv9
            replace hxv10 := bc HB.out hxv10
            have HRv1 := aM hiv1
            have HCv1 := aM hlv1
            clear hiv1 hlv1
            replace pv2 := eq_true pv2
            replace qv2 := eq_true qv2
            refine start_ (n := 48) (S := fun w' => w'.cell? ⟨gbz1, 0, none⟩ = some (.slice A0_0 l0_0.length c0_0) ∧ w'.cell? ⟨gbz1, 1, none⟩ = some (.slice A0_1 l0_1.length c0_1) ∧ w'.cell? ⟨gbz1, 2, none⟩ = some (.slice A0_2 l0_2.length c0_2) ∧ w'.cell? ⟨gbz1, 3, none⟩ = some (.int .i64 a0_3) ∧ w'.cell? ⟨gbz1, 4, none⟩ = some (.slice (some adv2) l0_4.length c0_4) ∧ w'.cell? ⟨gbz1, 5, none⟩ = some (.slice (some adv1) l0_5.length c0_5) ∧ w'.cell? ⟨gbz1, 6, none⟩ = some (.slice A0_6 l0_6.length c0_6) ∧ w'.cell? ⟨gbz1, 7, none⟩ = some (.int .i64 a0_7) ∧ w'.cell? (adv2.add (((rd l0_5 x24_2)).toNat * 9)) = some (.int .i64 ((rd_T73 l0_4 (rd l0_5 x24_2)).f0)) ∧ w'.cell? ⟨(adv2.add (((rd l0_5 x24_2)).toNat * 9)).block, (adv2.add (((rd l0_5 x24_2)).toNat * 9)).off + 1, none⟩ = some (.int .i64 ((rd_T73 l0_4 (rd l0_5 x24_2)).f1.f0)) ∧ w'.cell? ⟨(adv2.add (((rd l0_5 x24_2)).toNat * 9)).block, (adv2.add (((rd l0_5 x24_2)).toNat * 9)).off + 2, none⟩ = some (.int .i64 ((rd_T73 l0_4 (rd l0_5 x24_2)).f1.f1)) ∧ w'.cell? ⟨(adv2.add (((rd l0_5 x24_2)).toNat * 9)).block, (adv2.add (((rd l0_5 x24_2)).toNat * 9)).off + 3, none⟩ = some (.int .i64 ((rd_T73 l0_4 (rd l0_5 x24_2)).f1.f2)) ∧ w'.cell? ⟨(adv2.add (((rd l0_5 x24_2)).toNat * 9)).block, (adv2.add (((rd l0_5 x24_2)).toNat * 9)).off + 4, none⟩ = some (.int .i64 ((rd_T73 l0_4 (rd l0_5 x24_2)).f2)) ∧ w'.cell? ⟨(adv2.add (((rd l0_5 x24_2)).toNat * 9)).block, (adv2.add (((rd l0_5 x24_2)).toNat * 9)).off + 5, none⟩ = some (.int .i64 ((rd_T73 l0_4 (rd l0_5 x24_2)).f3)) ∧ w'.cell? ⟨(adv2.add (((rd l0_5 x24_2)).toNat * 9)).block, (adv2.add (((rd l0_5 x24_2)).toNat * 9)).off + 6, none⟩ = some (.int .i64 ((rd_T73 l0_4 (rd l0_5 x24_2)).f4)) ∧ w'.cell? ⟨(adv2.add (((rd l0_5 x24_2)).toNat * 9)).block, (adv2.add (((rd l0_5 x24_2)).toNat * 9)).off + 7, none⟩ = some (.int .i64 ((rd_T73 l0_4 (rd l0_5 x24_2)).f5.f0)) ∧ w'.cell? ⟨(adv2.add (((rd l0_5 x24_2)).toNat * 9)).block, (adv2.add (((rd l0_5 x24_2)).toNat * 9)).off + 8, none⟩ = some (.slice Av1 ((rd_T73 l0_4 (rd l0_5 x24_2)).f5.f1).length cv1)) (ds := []) (bm 48 0) (by kernel_rfl) rfl (by kernel_rfl) ⟨cK BKz1.out 0, cK BKz1.out 1, cK BKz1.out 2, cK BKz1.out 3, cK BKz1.out 4, cK BKz1.out 5, cK BKz1.out 6, cK BKz1.out 7, (bc HB.out hwv9 :), (bc HB.out hwv8 :), (bc HB.out hwv7 :), (bc HB.out hwv6 :), (bc HB.out hwv5 :), (bc HB.out hwv4 :), (bc HB.out hwv3 :), (bc HB.out hwv2 :), (bc HB.out hwv1 :)⟩ (fun hHeld => ?_); refine with_tabW impl_orderOk.tab11 impl_orderOk.bits11 (fun HT_ HW_ => ?_)
            generalize wr.drew = wv1 at BKz1 HB HRv1 hxv2 hxv3 hxv4 hxv5 hxv6 hxv7 hxv8 hxv9 hxv10 hHeld ⊢
            refine pZ 0 29 (bm 48 1) HT_.out ?_
            refine pZ 1 30 (bm 48 3) HT_.out ?_
            refine tZ 2 31 (bm 48 7) HT_.out HW_.out hHeld ?_
            refine pZ 3 32 (bm 48 15) HT_.out ?_
            refine pZ 4 33 (bm 48 31) HT_.out ?_
            refine oZ 5 (some 34) (bm 48 63) HT_.out (fun K hK => ?_)
            refine goesN Tryz.func102 #[.int .i64 (rd l0_5 x24_2), .int .i64 0, .int .i64 (wrap64 ((l0_4.length : Int) - 1))] ?_
            with_reducible refine (impl_from.calls _ _ _ _ _ A18.out).mono ?_
            rintro e w' ⟨rfl, ⟨nd, rfl⟩⟩
            refine ⟨_, rfl, ?_⟩
            refine hK.out _ _ ⟨cK BKz1.out 0, cK BKz1.out 1, cK BKz1.out 2, cK BKz1.out 3, cK BKz1.out 4, cK BKz1.out 5, cK BKz1.out 6, cK BKz1.out 7, (bc HB.out hwv9 :), (bc HB.out hwv8 :), (bc HB.out hwv7 :), (bc HB.out hwv6 :), (bc HB.out hwv5 :), (bc HB.out hwv4 :), (bc HB.out hwv3 :), (bc HB.out hwv2 :), (bc HB.out hwv1 :)⟩ (fun hHeld => ?_)
            clear hK K
            refine nZ 34 ?_
            refine pZ 6 35 (bm 48 127) HT_.out ?_
            refine pZ 7 36 (bm 48 255) HT_.out ?_
            refine pZ 8 37 (bm 48 511) HT_.out ?_
            refine pZ 10 39 (bm 48 1535) HT_.out ?_
            refine tZ 9 38 (bm 48 2047) HT_.out HW_.out hHeld ?_
            refine pZ 11 40 (bm 48 4095) HT_.out ?_
            refine pZ 12 41 (bm 48 8191) HT_.out ?_
            refine tZ 13 42 (bm 48 16383) HT_.out HW_.out hHeld ?_
            refine pZ 14 43 (bm 48 32767) HT_.out ?_
            refine pZ 15 44 (bm 48 65535) HT_.out ?_
            refine pZ 16 45 (bm 48 131071) HT_.out ?_
            refine pU 17 46 (bm 48 262143) HT_.out ?_
            refine pU 18 47 (bm 48 524287) HT_.out ?_
            refine pU 19 48 (bm 48 1048575) HT_.out ?_
            refine pU 20 49 (bm 48 2097151) HT_.out ?_
            refine pU 21 50 (bm 48 4194303) HT_.out ?_
            refine pU 22 51 (bm 48 8388607) HT_.out ?_
            refine pZ 23 52 (bm 48 16777215) HT_.out ?_
            refine pZ 24 53 (bm 48 33554431) HT_.out ?_
            refine pU 25 54 (bm 48 67108863) HT_.out ?_
            refine pU 26 55 (bm 48 134217727) HT_.out ?_
            refine pU 27 56 (bm 48 268435455) HT_.out ?_
            refine pU 28 57 (bm 48 536870911) HT_.out ?_
            refine pU 29 58 (bm 48 1073741823) HT_.out ?_
            refine pU 30 59 (bm 48 2147483647) HT_.out ?_
            refine pU 31 60 (bm 48 4294967295) HT_.out ?_
            refine pU 32 61 (bm 48 8589934591) HT_.out ?_
            refine pU 33 62 (bm 48 17179869183) HT_.out ?_
            refine pU 34 63 (bm 48 34359738367) HT_.out ?_
            refine pU 35 64 (bm 48 68719476735) HT_.out ?_
            refine pU 36 65 (bm 48 137438953471) HT_.out ?_
            refine pU 37 66 (bm 48 274877906943) HT_.out ?_
            refine pU 38 67 (bm 48 549755813887) HT_.out ?_
            refine pU 39 68 (bm 48 1099511627775) HT_.out ?_
            refine pU 40 69 (bm 48 2199023255551) HT_.out ?_
            refine pU 41 70 (bm 48 4398046511103) HT_.out ?_
            refine pU 42 71 (bm 48 8796093022207) HT_.out ?_
            refine pU 43 72 (bm 48 17592186044415) HT_.out ?_
            refine pU 44 73 (bm 48 35184372088831) HT_.out ?_
            refine pU 45 74 (bm 48 70368744177663) HT_.out ?_
            refine pU 46 75 (bm 48 140737488355327) HT_.out ?_
            refine pZ 47 76 (bm 48 281474976710655) HT_.out ?_
            refine done_ (done_of HT_.out (by kernel_rfl)) ?_
            try go_wp2
            go_ret
            exact ⟨rE, (hX HB.out)⟩
          rw [if_neg c22] at H
          have c22b0 := decide_eq_false c22
          clear c22
          have c24b0 := eq_true (odA : 0 ≤ x24_2)
          replace H := ifP H; obtain ⟨c25, H⟩ := H
          have c25b0 := eq_true c25
          have c25b1 := decide_eq_true c25
          clear c25
          replace H := bE H; obtain ⟨t108, A26, H⟩ := H
          by_cases c27 : t108 = true
          · subst c27
            rw [if_pos rfl] at H
            obtain rfl := sI H
            have pv1 : 0 ≤ (x24_2 : Int) := odA
            have qv1 : x24_2 < (l0_5.length : Int) := odA
            obtain ⟨adv1, ev1, hxv1⟩ := at_ib HR0_5.out HB.out x24_2 pv1 qv1
            cases ev1
            replace pv1 := eq_true pv1
            replace qv1 := eq_true qv1
            try go_wp2
            replace BKz1 := aM (blk_drew BKz1.out)
            replace HB := aM (below_drew1 HB.out)
            have pv2 : 0 ≤ ((rd l0_5 x24_2) : Int) := odA
            have qv2 : (rd l0_5 x24_2) < (l0_4.length : Int) := odA
            obtain ⟨adv2, Av1, cv1, ev2, hxv2, hxv3, hxv4, hxv5, hxv6, hxv7, hxv8, hxv9, hxv10, hlv1, hiv1⟩ := at_T73 HR0_4.out (rd l0_5 x24_2) pv2 qv2
            have hwv1 := hxv10
            have hwv2 := hxv9
            have hwv3 := hxv8
            have hwv4 := hxv7
            have hwv5 := hxv6
            have hwv6 := hxv5
            have hwv7 := hxv4
            have hwv8 := hxv3
            have hwv9 := hxv2
            cases ev2
            replace hxv2 := bc HB.out hxv2
            replace hxv3 := bc HB.out hxv3
            replace hxv4 := bc HB.out hxv4
            replace hxv5 := bc HB.out hxv5
            replace hxv6 := bc HB.out hxv6
            replace hxv7 := bc HB.out hxv7
            replace hxv8 := bc HB.out hxv8
            replace hxv9 := bc HB.out hxv9
            replace hxv10 := bc HB.out hxv10
            have HRv1 := aM hiv1
            have HCv1 := aM hlv1
            clear hiv1 hlv1
            replace pv2 := eq_true pv2
            replace qv2 := eq_true qv2
            refine start_ (n := 48) (S := fun w' => w'.cell? ⟨gbz1, 0, none⟩ = some (.slice A0_0 l0_0.length c0_0) ∧ w'.cell? ⟨gbz1, 1, none⟩ = some (.slice A0_1 l0_1.length c0_1) ∧ w'.cell? ⟨gbz1, 2, none⟩ = some (.slice A0_2 l0_2.length c0_2) ∧ w'.cell? ⟨gbz1, 3, none⟩ = some (.int .i64 a0_3) ∧ w'.cell? ⟨gbz1, 4, none⟩ = some (.slice (some adv2) l0_4.length c0_4) ∧ w'.cell? ⟨gbz1, 5, none⟩ = some (.slice (some adv1) l0_5.length c0_5) ∧ w'.cell? ⟨gbz1, 6, none⟩ = some (.slice A0_6 l0_6.length c0_6) ∧ w'.cell? ⟨gbz1, 7, none⟩ = some (.int .i64 a0_7) ∧ w'.cell? (adv2.add (((rd l0_5 x24_2)).toNat * 9)) = some (.int .i64 ((rd_T73 l0_4 (rd l0_5 x24_2)).f0)) ∧ w'.cell? ⟨(adv2.add (((rd l0_5 x24_2)).toNat * 9)).block, (adv2.add (((rd l0_5 x24_2)).toNat * 9)).off + 1, none⟩ = some (.int .i64 ((rd_T73 l0_4 (rd l0_5 x24_2)).f1.f0)) ∧ w'.cell? ⟨(adv2.add (((rd l0_5 x24_2)).toNat * 9)).block, (adv2.add (((rd l0_5 x24_2)).toNat * 9)).off + 2, none⟩ = some (.int .i64 ((rd_T73 l0_4 (rd l0_5 x24_2)).f1.f1)) ∧ w'.cell? ⟨(adv2.add (((rd l0_5 x24_2)).toNat * 9)).block, (adv2.add (((rd l0_5 x24_2)).toNat * 9)).off + 3, none⟩ = some (.int .i64 ((rd_T73 l0_4 (rd l0_5 x24_2)).f1.f2)) ∧ w'.cell? ⟨(adv2.add (((rd l0_5 x24_2)).toNat * 9)).block, (adv2.add (((rd l0_5 x24_2)).toNat * 9)).off + 4, none⟩ = some (.int .i64 ((rd_T73 l0_4 (rd l0_5 x24_2)).f2)) ∧ w'.cell? ⟨(adv2.add (((rd l0_5 x24_2)).toNat * 9)).block, (adv2.add (((rd l0_5 x24_2)).toNat * 9)).off + 5, none⟩ = some (.int .i64 ((rd_T73 l0_4 (rd l0_5 x24_2)).f3)) ∧ w'.cell? ⟨(adv2.add (((rd l0_5 x24_2)).toNat * 9)).block, (adv2.add (((rd l0_5 x24_2)).toNat * 9)).off + 6, none⟩ = some (.int .i64 ((rd_T73 l0_4 (rd l0_5 x24_2)).f4)) ∧ w'.cell? ⟨(adv2.add (((rd l0_5 x24_2)).toNat * 9)).block, (adv2.add (((rd l0_5 x24_2)).toNat * 9)).off + 7, none⟩ = some (.int .i64 ((rd_T73 l0_4 (rd l0_5 x24_2)).f5.f0)) ∧ w'.cell? ⟨(adv2.add (((rd l0_5 x24_2)).toNat * 9)).block, (adv2.add (((rd l0_5 x24_2)).toNat * 9)).off + 8, none⟩ = some (.slice Av1 ((rd_T73 l0_4 (rd l0_5 x24_2)).f5.f1).length cv1)) (ds := []) (bm 48 0) (by kernel_rfl) rfl (by kernel_rfl) ⟨cK BKz1.out 0, cK BKz1.out 1, cK BKz1.out 2, cK BKz1.out 3, cK BKz1.out 4, cK BKz1.out 5, cK BKz1.out 6, cK BKz1.out 7, (bc HB.out hwv9 :), (bc HB.out hwv8 :), (bc HB.out hwv7 :), (bc HB.out hwv6 :), (bc HB.out hwv5 :), (bc HB.out hwv4 :), (bc HB.out hwv3 :), (bc HB.out hwv2 :), (bc HB.out hwv1 :)⟩ (fun hHeld => ?_); refine with_tabW impl_orderOk.tab11 impl_orderOk.bits11 (fun HT_ HW_ => ?_)
            generalize wr.drew = wv1 at BKz1 HB HRv1 hxv2 hxv3 hxv4 hxv5 hxv6 hxv7 hxv8 hxv9 hxv10 hHeld ⊢
            refine pZ 0 29 (bm 48 1) HT_.out ?_
            refine pZ 1 30 (bm 48 3) HT_.out ?_
            refine tZ 2 31 (bm 48 7) HT_.out HW_.out hHeld ?_
            refine pZ 3 32 (bm 48 15) HT_.out ?_
            refine pZ 4 33 (bm 48 31) HT_.out ?_
            refine oZ 5 (some 34) (bm 48 63) HT_.out (fun K hK => ?_)
            refine goesN Tryz.func102 #[.int .i64 (rd l0_5 x24_2), .int .i64 0, .int .i64 (wrap64 ((l0_4.length : Int) - 1))] ?_
            with_reducible refine (impl_from.calls _ _ _ _ _ A18.out).mono ?_
            rintro e w' ⟨rfl, ⟨nd, rfl⟩⟩
            refine ⟨_, rfl, ?_⟩
            obtain ⟨iv1, hiv2, _, hszv1, _⟩ := info_parts info3
            obtain ⟨hcutv1, hAv1, hCv1⟩ := print_take_of (P := Tryz.prog) (Value.int .i64) 0 28 3 .i64 Tryz.underlying28 hiv2 hszv1 (some adv1) c0_5 l0_5 x24_2 (odA) (odA) HC0_5.out
            have HRv2 := aM (Kd.C_of_reads (h1 := fun _ => rfl) (hAv1 _ (Kd.reads_of_C HR0_5.out)))
            have HCv2 := aM hCv1
            clear hAv1 hCv1 hiv2 hszv1
            refine hK.out _ _ ⟨cK BKz1.out 0, cK BKz1.out 1, cK BKz1.out 2, cK BKz1.out 3, cK BKz1.out 4, cK BKz1.out 5, cK BKz1.out 6, cK BKz1.out 7, (bc HB.out hwv9 :), (bc HB.out hwv8 :), (bc HB.out hwv7 :), (bc HB.out hwv6 :), (bc HB.out hwv5 :), (bc HB.out hwv4 :), (bc HB.out hwv3 :), (bc HB.out hwv2 :), (bc HB.out hwv1 :)⟩ (fun hHeld => ?_)
            clear hK K
            refine nZ 34 ?_
            refine pZ 6 35 (bm 48 127) HT_.out ?_
            refine pZ 7 36 (bm 48 255) HT_.out ?_
            refine pZ 8 37 (bm 48 511) HT_.out ?_
            refine pZ 10 39 (bm 48 1535) HT_.out ?_
            refine tZ 9 38 (bm 48 2047) HT_.out HW_.out hHeld ?_
            refine pZ 11 40 (bm 48 4095) HT_.out ?_
            refine pZ 12 41 (bm 48 8191) HT_.out ?_
            refine tZ 13 42 (bm 48 16383) HT_.out HW_.out hHeld ?_
            refine pZ 14 43 (bm 48 32767) HT_.out ?_
            refine pZ 15 44 (bm 48 65535) HT_.out ?_
            refine pZ 16 45 (bm 48 131071) HT_.out ?_
            refine pZ 17 46 (bm 48 262143) HT_.out ?_
            refine pZ 19 48 (bm 48 786431) HT_.out ?_
            refine pZ 21 50 (bm 48 2883583) HT_.out ?_
            refine tZ 18 47 (bm 48 3145727) HT_.out HW_.out hHeld ?_
            refine pZ 20 49 (bm 48 4194303) HT_.out ?_
            refine oZ 22 (some 51) (bm 48 8388607) HT_.out (fun K hK => ?_)
            refine goes_ Tryz.func175 (by kernel_rfl) rfl #[.slice (some adv1) (l0_5.take (x24_2 : Int).toNat).length c0_5, .int .i64 (rd l0_5 x24_2)] (by rfl) rfl rfl (by (try simp only [List.map_toArray, List.map_cons, List.map_nil]); first | done | (rw [show (l0_5.take (x24_2 : Int).toNat).length = x24_2.toNat from (by rw [List.length_take]; have h_ : (x24_2 : Int) ≤ (l0_5.length : Int) := odA; omega)] <;> rfl) | rfl | (simp only [List.length_drop, List.length_take]; rfl)) ?_
            with_reducible refine (slices_Contains_int_int.calls _ _ _ _ _ _ _ ?side1 ?side2 A26.out).mono ?_
            (case side1 => repeat (first | exact (Kd.C_below HRv2.out (hX HB.out)) | (with_reducible refine Kd.C_alloc ?_ _) | (with_reducible refine Kd.C_drewN ?_ _) | (with_reducible refine Kd.C_drew ?_)))
            (case side2 => exact HCv2.out)
            rintro e w' ⟨rfl, ⟨nd, rfl⟩⟩
            refine ⟨_, rfl, ?_⟩
            refine hK.out _ _ ⟨cK BKz1.out 0, cK BKz1.out 1, cK BKz1.out 2, cK BKz1.out 3, cK BKz1.out 4, cK BKz1.out 5, cK BKz1.out 6, cK BKz1.out 7, (bc HB.out hwv9 :), (bc HB.out hwv8 :), (bc HB.out hwv7 :), (bc HB.out hwv6 :), (bc HB.out hwv5 :), (bc HB.out hwv4 :), (bc HB.out hwv3 :), (bc HB.out hwv2 :), (bc HB.out hwv1 :)⟩ (fun hHeld => ?_)
            clear hK K
            refine nZ 51 ?_
            refine pZ 23 52 (bm 48 16777215) HT_.out ?_
            refine pZ 24 53 (bm 48 33554431) HT_.out ?_
            refine pU 25 54 (bm 48 67108863) HT_.out ?_
            refine pU 26 55 (bm 48 134217727) HT_.out ?_
            refine pU 27 56 (bm 48 268435455) HT_.out ?_
            refine pU 28 57 (bm 48 536870911) HT_.out ?_
            refine pU 29 58 (bm 48 1073741823) HT_.out ?_
            refine pU 30 59 (bm 48 2147483647) HT_.out ?_
            refine pU 31 60 (bm 48 4294967295) HT_.out ?_
            refine pU 32 61 (bm 48 8589934591) HT_.out ?_
            refine pU 33 62 (bm 48 17179869183) HT_.out ?_
            refine pU 34 63 (bm 48 34359738367) HT_.out ?_
            refine pU 35 64 (bm 48 68719476735) HT_.out ?_
            refine pU 36 65 (bm 48 137438953471) HT_.out ?_
            refine pU 37 66 (bm 48 274877906943) HT_.out ?_
            refine pU 38 67 (bm 48 549755813887) HT_.out ?_
            refine pU 39 68 (bm 48 1099511627775) HT_.out ?_
            refine pU 40 69 (bm 48 2199023255551) HT_.out ?_
            refine pU 41 70 (bm 48 4398046511103) HT_.out ?_
            refine pU 42 71 (bm 48 8796093022207) HT_.out ?_
            refine pU 43 72 (bm 48 17592186044415) HT_.out ?_
            refine pU 44 73 (bm 48 35184372088831) HT_.out ?_
            refine pU 45 74 (bm 48 70368744177663) HT_.out ?_
            refine pU 46 75 (bm 48 140737488355327) HT_.out ?_
            refine pZ 47 76 (bm 48 281474976710655) HT_.out ?_
            refine done_ (done_of HT_.out (by kernel_rfl)) ?_
            try go_wp2
            go_ret
            exact ⟨rE, (hX HB.out)⟩
          replace c27 := Bool.eq_false_iff.mpr c27
          subst c27
          rw [if_neg nft] at H
          by_cases c30 : x24_2 > 0
          case neg =>
            rw [if_neg c30] at H
            have c30b0 := decide_eq_false c30
            clear c30
            have H' := aM H
            clear H
            have pv1 : 0 ≤ (x24_2 : Int) := odA
            have qv1 : x24_2 < (l0_5.length : Int) := odA
            obtain ⟨adv1, ev1, hxv1⟩ := at_ib HR0_5.out HB.out x24_2 pv1 qv1
            cases ev1
            replace pv1 := eq_true pv1
            replace qv1 := eq_true qv1
            try go_wp2
            replace BKz1 := aM (blk_drew BKz1.out)
            replace HB := aM (below_drew1 HB.out)
            have pv2 : 0 ≤ ((rd l0_5 x24_2) : Int) := odA
            have qv2 : (rd l0_5 x24_2) < (l0_4.length : Int) := odA
            obtain ⟨adv2, Av1, cv1, ev2, hxv2, hxv3, hxv4, hxv5, hxv6, hxv7, hxv8, hxv9, hxv10, hlv1, hiv1⟩ := at_T73 HR0_4.out (rd l0_5 x24_2) pv2 qv2
            have hwv1 := hxv10
            have hwv2 := hxv9
            have hwv3 := hxv8
            have hwv4 := hxv7
            have hwv5 := hxv6
            have hwv6 := hxv5
            have hwv7 := hxv4
            have hwv8 := hxv3
            have hwv9 := hxv2
            cases ev2
            replace hxv2 := bc HB.out hxv2
            replace hxv3 := bc HB.out hxv3
            replace hxv4 := bc HB.out hxv4
            replace hxv5 := bc HB.out hxv5
            replace hxv6 := bc HB.out hxv6
            replace hxv7 := bc HB.out hxv7
            replace hxv8 := bc HB.out hxv8
            replace hxv9 := bc HB.out hxv9
            replace hxv10 := bc HB.out hxv10
            have HRv1 := aM hiv1
            have HCv1 := aM hlv1
            clear hiv1 hlv1
            replace pv2 := eq_true pv2
            replace qv2 := eq_true qv2
            refine start_ (n := 48) (S := fun w' => w'.cell? ⟨gbz1, 0, none⟩ = some (.slice A0_0 l0_0.length c0_0) ∧ w'.cell? ⟨gbz1, 1, none⟩ = some (.slice A0_1 l0_1.length c0_1) ∧ w'.cell? ⟨gbz1, 2, none⟩ = some (.slice A0_2 l0_2.length c0_2) ∧ w'.cell? ⟨gbz1, 3, none⟩ = some (.int .i64 a0_3) ∧ w'.cell? ⟨gbz1, 4, none⟩ = some (.slice (some adv2) l0_4.length c0_4) ∧ w'.cell? ⟨gbz1, 5, none⟩ = some (.slice (some adv1) l0_5.length c0_5) ∧ w'.cell? ⟨gbz1, 6, none⟩ = some (.slice A0_6 l0_6.length c0_6) ∧ w'.cell? ⟨gbz1, 7, none⟩ = some (.int .i64 a0_7) ∧ w'.cell? (adv2.add (((rd l0_5 x24_2)).toNat * 9)) = some (.int .i64 ((rd_T73 l0_4 (rd l0_5 x24_2)).f0)) ∧ w'.cell? ⟨(adv2.add (((rd l0_5 x24_2)).toNat * 9)).block, (adv2.add (((rd l0_5 x24_2)).toNat * 9)).off + 1, none⟩ = some (.int .i64 ((rd_T73 l0_4 (rd l0_5 x24_2)).f1.f0)) ∧ w'.cell? ⟨(adv2.add (((rd l0_5 x24_2)).toNat * 9)).block, (adv2.add (((rd l0_5 x24_2)).toNat * 9)).off + 2, none⟩ = some (.int .i64 ((rd_T73 l0_4 (rd l0_5 x24_2)).f1.f1)) ∧ w'.cell? ⟨(adv2.add (((rd l0_5 x24_2)).toNat * 9)).block, (adv2.add (((rd l0_5 x24_2)).toNat * 9)).off + 3, none⟩ = some (.int .i64 ((rd_T73 l0_4 (rd l0_5 x24_2)).f1.f2)) ∧ w'.cell? ⟨(adv2.add (((rd l0_5 x24_2)).toNat * 9)).block, (adv2.add (((rd l0_5 x24_2)).toNat * 9)).off + 4, none⟩ = some (.int .i64 ((rd_T73 l0_4 (rd l0_5 x24_2)).f2)) ∧ w'.cell? ⟨(adv2.add (((rd l0_5 x24_2)).toNat * 9)).block, (adv2.add (((rd l0_5 x24_2)).toNat * 9)).off + 5, none⟩ = some (.int .i64 ((rd_T73 l0_4 (rd l0_5 x24_2)).f3)) ∧ w'.cell? ⟨(adv2.add (((rd l0_5 x24_2)).toNat * 9)).block, (adv2.add (((rd l0_5 x24_2)).toNat * 9)).off + 6, none⟩ = some (.int .i64 ((rd_T73 l0_4 (rd l0_5 x24_2)).f4)) ∧ w'.cell? ⟨(adv2.add (((rd l0_5 x24_2)).toNat * 9)).block, (adv2.add (((rd l0_5 x24_2)).toNat * 9)).off + 7, none⟩ = some (.int .i64 ((rd_T73 l0_4 (rd l0_5 x24_2)).f5.f0)) ∧ w'.cell? ⟨(adv2.add (((rd l0_5 x24_2)).toNat * 9)).block, (adv2.add (((rd l0_5 x24_2)).toNat * 9)).off + 8, none⟩ = some (.slice Av1 ((rd_T73 l0_4 (rd l0_5 x24_2)).f5.f1).length cv1)) (ds := []) (bm 48 0) (by kernel_rfl) rfl (by kernel_rfl) ⟨cK BKz1.out 0, cK BKz1.out 1, cK BKz1.out 2, cK BKz1.out 3, cK BKz1.out 4, cK BKz1.out 5, cK BKz1.out 6, cK BKz1.out 7, (bc HB.out hwv9 :), (bc HB.out hwv8 :), (bc HB.out hwv7 :), (bc HB.out hwv6 :), (bc HB.out hwv5 :), (bc HB.out hwv4 :), (bc HB.out hwv3 :), (bc HB.out hwv2 :), (bc HB.out hwv1 :)⟩ (fun hHeld => ?_); refine with_tabW impl_orderOk.tab11 impl_orderOk.bits11 (fun HT_ HW_ => ?_)
            generalize wr.drew = wv1 at BKz1 HB HRv1 hxv2 hxv3 hxv4 hxv5 hxv6 hxv7 hxv8 hxv9 hxv10 hHeld ⊢
            refine pZ 0 29 (bm 48 1) HT_.out ?_
            refine pZ 1 30 (bm 48 3) HT_.out ?_
            refine tZ 2 31 (bm 48 7) HT_.out HW_.out hHeld ?_
            refine pZ 3 32 (bm 48 15) HT_.out ?_
            refine pZ 4 33 (bm 48 31) HT_.out ?_
            refine oZ 5 (some 34) (bm 48 63) HT_.out (fun K hK => ?_)
            refine goesN Tryz.func102 #[.int .i64 (rd l0_5 x24_2), .int .i64 0, .int .i64 (wrap64 ((l0_4.length : Int) - 1))] ?_
            with_reducible refine (impl_from.calls _ _ _ _ _ A18.out).mono ?_
            rintro e w' ⟨rfl, ⟨nd, rfl⟩⟩
            refine ⟨_, rfl, ?_⟩
            obtain ⟨iv1, hiv2, _, hszv1, _⟩ := info_parts info3
            obtain ⟨hcutv1, hAv1, hCv1⟩ := print_take_of (P := Tryz.prog) (Value.int .i64) 0 28 3 .i64 Tryz.underlying28 hiv2 hszv1 (some adv1) c0_5 l0_5 x24_2 (odA) (odA) HC0_5.out
            have HRv2 := aM (Kd.C_of_reads (h1 := fun _ => rfl) (hAv1 _ (Kd.reads_of_C HR0_5.out)))
            have HCv2 := aM hCv1
            clear hAv1 hCv1 hiv2 hszv1
            refine hK.out _ _ ⟨cK BKz1.out 0, cK BKz1.out 1, cK BKz1.out 2, cK BKz1.out 3, cK BKz1.out 4, cK BKz1.out 5, cK BKz1.out 6, cK BKz1.out 7, (bc HB.out hwv9 :), (bc HB.out hwv8 :), (bc HB.out hwv7 :), (bc HB.out hwv6 :), (bc HB.out hwv5 :), (bc HB.out hwv4 :), (bc HB.out hwv3 :), (bc HB.out hwv2 :), (bc HB.out hwv1 :)⟩ (fun hHeld => ?_)
            clear hK K
            refine nZ 34 ?_
            refine pZ 6 35 (bm 48 127) HT_.out ?_
            refine pZ 7 36 (bm 48 255) HT_.out ?_
            refine pZ 8 37 (bm 48 511) HT_.out ?_
            refine pZ 10 39 (bm 48 1535) HT_.out ?_
            refine tZ 9 38 (bm 48 2047) HT_.out HW_.out hHeld ?_
            refine pZ 11 40 (bm 48 4095) HT_.out ?_
            refine pZ 12 41 (bm 48 8191) HT_.out ?_
            refine tZ 13 42 (bm 48 16383) HT_.out HW_.out hHeld ?_
            refine pZ 14 43 (bm 48 32767) HT_.out ?_
            refine pZ 15 44 (bm 48 65535) HT_.out ?_
            refine pZ 16 45 (bm 48 131071) HT_.out ?_
            refine pZ 17 46 (bm 48 262143) HT_.out ?_
            refine pZ 19 48 (bm 48 786431) HT_.out ?_
            refine pZ 21 50 (bm 48 2883583) HT_.out ?_
            refine tZ 18 47 (bm 48 3145727) HT_.out HW_.out hHeld ?_
            refine pZ 20 49 (bm 48 4194303) HT_.out ?_
            refine oZ 22 (some 51) (bm 48 8388607) HT_.out (fun K hK => ?_)
            refine goes_ Tryz.func175 (by kernel_rfl) rfl #[.slice (some adv1) (l0_5.take (x24_2 : Int).toNat).length c0_5, .int .i64 (rd l0_5 x24_2)] (by rfl) rfl rfl (by (try simp only [List.map_toArray, List.map_cons, List.map_nil]); first | done | (rw [show (l0_5.take (x24_2 : Int).toNat).length = x24_2.toNat from (by rw [List.length_take]; have h_ : (x24_2 : Int) ≤ (l0_5.length : Int) := odA; omega)] <;> rfl) | rfl | (simp only [List.length_drop, List.length_take]; rfl)) ?_
            with_reducible refine (slices_Contains_int_int.calls _ _ _ _ _ _ _ ?side1 ?side2 A26.out).mono ?_
            (case side1 => repeat (first | exact (Kd.C_below HRv2.out (hX HB.out)) | (with_reducible refine Kd.C_alloc ?_ _) | (with_reducible refine Kd.C_drewN ?_ _) | (with_reducible refine Kd.C_drew ?_)))
            (case side2 => exact HCv2.out)
            rintro e w' ⟨rfl, ⟨nd, rfl⟩⟩
            refine ⟨_, rfl, ?_⟩
            refine hK.out _ _ ⟨cK BKz1.out 0, cK BKz1.out 1, cK BKz1.out 2, cK BKz1.out 3, cK BKz1.out 4, cK BKz1.out 5, cK BKz1.out 6, cK BKz1.out 7, (bc HB.out hwv9 :), (bc HB.out hwv8 :), (bc HB.out hwv7 :), (bc HB.out hwv6 :), (bc HB.out hwv5 :), (bc HB.out hwv4 :), (bc HB.out hwv3 :), (bc HB.out hwv2 :), (bc HB.out hwv1 :)⟩ (fun hHeld => ?_)
            clear hK K
            refine nZ 51 ?_
            refine pZ 23 52 (bm 48 16777215) HT_.out ?_
            refine pZ 24 53 (bm 48 33554431) HT_.out ?_
            refine pZ 25 54 (bm 48 67108863) HT_.out ?_
            refine pZ 26 55 (bm 48 134217727) HT_.out ?_
            refine pZ 27 56 (bm 48 268435455) HT_.out ?_
            refine pU 28 57 (bm 48 536870911) HT_.out ?_
            refine pU 29 58 (bm 48 1073741823) HT_.out ?_
            refine pU 30 59 (bm 48 2147483647) HT_.out ?_
            refine pU 31 60 (bm 48 4294967295) HT_.out ?_
            refine pU 32 61 (bm 48 8589934591) HT_.out ?_
            refine pU 33 62 (bm 48 17179869183) HT_.out ?_
            refine pU 34 63 (bm 48 34359738367) HT_.out ?_
            refine pU 35 64 (bm 48 68719476735) HT_.out ?_
            refine pU 36 65 (bm 48 137438953471) HT_.out ?_
            refine pU 37 66 (bm 48 274877906943) HT_.out ?_
            refine pU 38 67 (bm 48 549755813887) HT_.out ?_
            refine pU 39 68 (bm 48 1099511627775) HT_.out ?_
            refine pU 40 69 (bm 48 2199023255551) HT_.out ?_
            refine pU 41 70 (bm 48 4398046511103) HT_.out ?_
            refine pU 42 71 (bm 48 8796093022207) HT_.out ?_
            refine pU 43 72 (bm 48 17592186044415) HT_.out ?_
            refine pU 44 73 (bm 48 35184372088831) HT_.out ?_
            refine pU 45 74 (bm 48 70368744177663) HT_.out ?_
            refine pZ 46 75 (bm 48 140737488355327) HT_.out ?_
            refine pZ 47 76 (bm 48 281474976710655) HT_.out ?_
            refine done_ (done_of HT_.out (by kernel_rfl)) ?_
            try go_wp2
            go_roundg k2
            case measure => have := HKy1.out; have := HKw1.out; omega
            case rel => exact ⟨(wrap64 (x24_2 + 1)), rS, H', ⟨by have := HKy1.out; have := HKw1.out; omega⟩, ⟨(bX BKz1.out)⟩, ⟨(hX HB.out)⟩⟩
          rw [if_pos c30] at H
          have c30b0 := decide_eq_true c30
          clear c30
          obtain ⟨ji31, hji31⟩ : ∃ j_ : Int, (wrap64 (x24_2 - 1)) = j_ := ⟨_, rfl⟩
          replace H : (if 0 ≤ (ji31) then (if (ji31) < (l0_5.length : Int) then (if 0 ≤ (rd l0_5 (ji31)) then (if (rd l0_5 (ji31)) < (l0_4.length : Int) then (if ((rd_T73 l0_4 (rd l0_5 (ji31))).f3) > ((rd_T73 l0_4 (rd l0_5 x24_2)).f3) then (some false) else (impl_orderOk.l1 k2 x3_1 l0_5 (l0_5.length : Int) (wrap64 (x24_2 + 1)) l0_0 l0_1 l0_2 a0_3 l0_4 l0_5 l0_6 a0_7)) else (none)) else (none)) else (none)) else (none)) = some r := by first | (rw [hji31] at H; exact H) | (simp only [hji31] at H ⊢; exact H)
          (try rw [hji31] at A18)
          (try rw [hji31] at A26)
          have hji31w : (IntKind.i64.wrap (x24_2 - 1)) = ji31 := (i64_w _).trans hji31
          replace H := ifP H; obtain ⟨c32, H⟩ := H
          have c32b0 := decide_eq_true c32
          clear c32
          replace H := ifP H; obtain ⟨c33, H⟩ := H
          have c33b0 := decide_eq_true c33
          clear c33
          replace H := ifP H; obtain ⟨c34, H⟩ := H
          have c34b0 := decide_eq_true c34
          clear c34
          replace H := ifP H; obtain ⟨c35, H⟩ := H
          have c35b0 := decide_eq_true c35
          clear c35
          by_cases c36 : ((rd_T73 l0_4 (rd l0_5 (ji31))).f3) > ((rd_T73 l0_4 (rd l0_5 x24_2)).f3)
          · rw [if_pos c36] at H
            have c36b0 := decide_eq_true c36
            clear c36
            obtain rfl := sI H
            have pv1 : 0 ≤ (x24_2 : Int) := odA
            have qv1 : x24_2 < (l0_5.length : Int) := odA
            obtain ⟨adv1, ev1, hxv1⟩ := at_ib HR0_5.out HB.out x24_2 pv1 qv1
            cases ev1
            replace pv1 := eq_true pv1
            replace qv1 := eq_true qv1
            try go_wp2
            replace BKz1 := aM (blk_drew BKz1.out)
            replace HB := aM (below_drew1 HB.out)
            have pv2 : 0 ≤ ((rd l0_5 x24_2) : Int) := odA
            have qv2 : (rd l0_5 x24_2) < (l0_4.length : Int) := odA
            obtain ⟨adv2, Av1, cv1, ev2, hxv2, hxv3, hxv4, hxv5, hxv6, hxv7, hxv8, hxv9, hxv10, hlv1, hiv1⟩ := at_T73 HR0_4.out (rd l0_5 x24_2) pv2 qv2
            have hwv1 := hxv10
            have hwv2 := hxv9
            have hwv3 := hxv8
            have hwv4 := hxv7
            have hwv5 := hxv6
            have hwv6 := hxv5
            have hwv7 := hxv4
            have hwv8 := hxv3
            have hwv9 := hxv2
            cases ev2
            replace hxv2 := bc HB.out hxv2
            replace hxv3 := bc HB.out hxv3
            replace hxv4 := bc HB.out hxv4
            replace hxv5 := bc HB.out hxv5
            replace hxv6 := bc HB.out hxv6
            replace hxv7 := bc HB.out hxv7
            replace hxv8 := bc HB.out hxv8
            replace hxv9 := bc HB.out hxv9
            replace hxv10 := bc HB.out hxv10
            have HRv1 := aM hiv1
            have HCv1 := aM hlv1
            clear hiv1 hlv1
            replace pv2 := eq_true pv2
            replace qv2 := eq_true qv2
            have pv3 : 0 ≤ ((ji31) : Int) := odA
            have qv3 : (ji31) < (l0_5.length : Int) := odA
            obtain ⟨adv3, ev3, hxv11⟩ := Kd.at_int HR0_5.out (ji31) pv3 qv3
            have hwv10 := hxv11
            obtain rfl : adv1 = adv3 := (by injection ev3)
            replace hxv11 := bc HB.out hxv11
            replace pv3 := eq_true pv3
            replace qv3 := eq_true qv3
            have pv4 : 0 ≤ ((rd l0_5 (ji31)) : Int) := odA
            have qv4 : (rd l0_5 (ji31)) < (l0_4.length : Int) := odA
            obtain ⟨adv4, Av2, cv2, ev4, hxv12, hxv13, hxv14, hxv15, hxv16, hxv17, hxv18, hxv19, hxv20, hlv2, hiv2⟩ := at_T73 HR0_4.out (rd l0_5 (ji31)) pv4 qv4
            have hwv11 := hxv20
            have hwv12 := hxv19
            have hwv13 := hxv18
            have hwv14 := hxv17
            have hwv15 := hxv16
            have hwv16 := hxv15
            have hwv17 := hxv14
            have hwv18 := hxv13
            have hwv19 := hxv12
            obtain rfl : adv2 = adv4 := (by injection ev4)
            replace hxv12 := bc HB.out hxv12
            replace hxv13 := bc HB.out hxv13
            replace hxv14 := bc HB.out hxv14
            replace hxv15 := bc HB.out hxv15
            replace hxv16 := bc HB.out hxv16
            replace hxv17 := bc HB.out hxv17
            replace hxv18 := bc HB.out hxv18
            replace hxv19 := bc HB.out hxv19
            replace hxv20 := bc HB.out hxv20
            have HRv2 := aM hiv2
            have HCv2 := aM hlv2
            clear hiv2 hlv2
            replace pv4 := eq_true pv4
            replace qv4 := eq_true qv4
            have pv5 : 0 ≤ ((rd l0_5 x24_2) : Int) := odA
            have qv5 : (rd l0_5 x24_2) < (l0_4.length : Int) := odA
            obtain ⟨adv5, Av3, cv3, ev5, hxv21, hxv22, hxv23, hxv24, hxv25, hxv26, hxv27, hxv28, hxv29, hlv3, hiv3⟩ := at_T73 HR0_4.out (rd l0_5 x24_2) pv5 qv5
            have hwv20 := hxv29
            have hwv21 := hxv28
            have hwv22 := hxv27
            have hwv23 := hxv26
            have hwv24 := hxv25
            have hwv25 := hxv24
            have hwv26 := hxv23
            have hwv27 := hxv22
            have hwv28 := hxv21
            obtain rfl : adv2 = adv5 := (by injection ev5)
            replace hxv21 := bc HB.out hxv21
            replace hxv22 := bc HB.out hxv22
            replace hxv23 := bc HB.out hxv23
            replace hxv24 := bc HB.out hxv24
            replace hxv25 := bc HB.out hxv25
            replace hxv26 := bc HB.out hxv26
            replace hxv27 := bc HB.out hxv27
            replace hxv28 := bc HB.out hxv28
            replace hxv29 := bc HB.out hxv29
            have HRv3 := aM hiv3
            have HCv3 := aM hlv3
            clear hiv3 hlv3
            replace pv5 := eq_true pv5
            replace qv5 := eq_true qv5
            have ea_ := Option.some.inj (hxv10.symm.trans hxv29)
            injection ea_ with ea_ en_ ec_
            subst ea_
            subst ec_
            clear en_
            refine start_ (n := 48) (S := fun w' => w'.cell? ⟨gbz1, 0, none⟩ = some (.slice A0_0 l0_0.length c0_0) ∧ w'.cell? ⟨gbz1, 1, none⟩ = some (.slice A0_1 l0_1.length c0_1) ∧ w'.cell? ⟨gbz1, 2, none⟩ = some (.slice A0_2 l0_2.length c0_2) ∧ w'.cell? ⟨gbz1, 3, none⟩ = some (.int .i64 a0_3) ∧ w'.cell? ⟨gbz1, 4, none⟩ = some (.slice (some adv2) l0_4.length c0_4) ∧ w'.cell? ⟨gbz1, 5, none⟩ = some (.slice (some adv1) l0_5.length c0_5) ∧ w'.cell? ⟨gbz1, 6, none⟩ = some (.slice A0_6 l0_6.length c0_6) ∧ w'.cell? ⟨gbz1, 7, none⟩ = some (.int .i64 a0_7) ∧ w'.cell? (adv2.add (((rd l0_5 x24_2)).toNat * 9)) = some (.int .i64 ((rd_T73 l0_4 (rd l0_5 x24_2)).f0)) ∧ w'.cell? ⟨(adv2.add (((rd l0_5 x24_2)).toNat * 9)).block, (adv2.add (((rd l0_5 x24_2)).toNat * 9)).off + 1, none⟩ = some (.int .i64 ((rd_T73 l0_4 (rd l0_5 x24_2)).f1.f0)) ∧ w'.cell? ⟨(adv2.add (((rd l0_5 x24_2)).toNat * 9)).block, (adv2.add (((rd l0_5 x24_2)).toNat * 9)).off + 2, none⟩ = some (.int .i64 ((rd_T73 l0_4 (rd l0_5 x24_2)).f1.f1)) ∧ w'.cell? ⟨(adv2.add (((rd l0_5 x24_2)).toNat * 9)).block, (adv2.add (((rd l0_5 x24_2)).toNat * 9)).off + 3, none⟩ = some (.int .i64 ((rd_T73 l0_4 (rd l0_5 x24_2)).f1.f2)) ∧ w'.cell? ⟨(adv2.add (((rd l0_5 x24_2)).toNat * 9)).block, (adv2.add (((rd l0_5 x24_2)).toNat * 9)).off + 4, none⟩ = some (.int .i64 ((rd_T73 l0_4 (rd l0_5 x24_2)).f2)) ∧ w'.cell? ⟨(adv2.add (((rd l0_5 x24_2)).toNat * 9)).block, (adv2.add (((rd l0_5 x24_2)).toNat * 9)).off + 5, none⟩ = some (.int .i64 ((rd_T73 l0_4 (rd l0_5 x24_2)).f3)) ∧ w'.cell? ⟨(adv2.add (((rd l0_5 x24_2)).toNat * 9)).block, (adv2.add (((rd l0_5 x24_2)).toNat * 9)).off + 6, none⟩ = some (.int .i64 ((rd_T73 l0_4 (rd l0_5 x24_2)).f4)) ∧ w'.cell? ⟨(adv2.add (((rd l0_5 x24_2)).toNat * 9)).block, (adv2.add (((rd l0_5 x24_2)).toNat * 9)).off + 7, none⟩ = some (.int .i64 ((rd_T73 l0_4 (rd l0_5 x24_2)).f5.f0)) ∧ w'.cell? ⟨(adv2.add (((rd l0_5 x24_2)).toNat * 9)).block, (adv2.add (((rd l0_5 x24_2)).toNat * 9)).off + 8, none⟩ = some (.slice Av1 ((rd_T73 l0_4 (rd l0_5 x24_2)).f5.f1).length cv1) ∧ w'.cell? (adv1.add ((ji31)).toNat) = some (.int .i64 (rd l0_5 (ji31))) ∧ w'.cell? (adv2.add (((rd l0_5 (ji31))).toNat * 9)) = some (.int .i64 ((rd_T73 l0_4 (rd l0_5 (ji31))).f0)) ∧ w'.cell? ⟨(adv2.add (((rd l0_5 (ji31))).toNat * 9)).block, (adv2.add (((rd l0_5 (ji31))).toNat * 9)).off + 1, none⟩ = some (.int .i64 ((rd_T73 l0_4 (rd l0_5 (ji31))).f1.f0)) ∧ w'.cell? ⟨(adv2.add (((rd l0_5 (ji31))).toNat * 9)).block, (adv2.add (((rd l0_5 (ji31))).toNat * 9)).off + 2, none⟩ = some (.int .i64 ((rd_T73 l0_4 (rd l0_5 (ji31))).f1.f1)) ∧ w'.cell? ⟨(adv2.add (((rd l0_5 (ji31))).toNat * 9)).block, (adv2.add (((rd l0_5 (ji31))).toNat * 9)).off + 3, none⟩ = some (.int .i64 ((rd_T73 l0_4 (rd l0_5 (ji31))).f1.f2)) ∧ w'.cell? ⟨(adv2.add (((rd l0_5 (ji31))).toNat * 9)).block, (adv2.add (((rd l0_5 (ji31))).toNat * 9)).off + 4, none⟩ = some (.int .i64 ((rd_T73 l0_4 (rd l0_5 (ji31))).f2)) ∧ w'.cell? ⟨(adv2.add (((rd l0_5 (ji31))).toNat * 9)).block, (adv2.add (((rd l0_5 (ji31))).toNat * 9)).off + 5, none⟩ = some (.int .i64 ((rd_T73 l0_4 (rd l0_5 (ji31))).f3)) ∧ w'.cell? ⟨(adv2.add (((rd l0_5 (ji31))).toNat * 9)).block, (adv2.add (((rd l0_5 (ji31))).toNat * 9)).off + 6, none⟩ = some (.int .i64 ((rd_T73 l0_4 (rd l0_5 (ji31))).f4)) ∧ w'.cell? ⟨(adv2.add (((rd l0_5 (ji31))).toNat * 9)).block, (adv2.add (((rd l0_5 (ji31))).toNat * 9)).off + 7, none⟩ = some (.int .i64 ((rd_T73 l0_4 (rd l0_5 (ji31))).f5.f0)) ∧ w'.cell? ⟨(adv2.add (((rd l0_5 (ji31))).toNat * 9)).block, (adv2.add (((rd l0_5 (ji31))).toNat * 9)).off + 8, none⟩ = some (.slice Av2 ((rd_T73 l0_4 (rd l0_5 (ji31))).f5.f1).length cv2) ∧ w'.cell? (adv2.add (((rd l0_5 x24_2)).toNat * 9)) = some (.int .i64 ((rd_T73 l0_4 (rd l0_5 x24_2)).f0)) ∧ w'.cell? ⟨(adv2.add (((rd l0_5 x24_2)).toNat * 9)).block, (adv2.add (((rd l0_5 x24_2)).toNat * 9)).off + 1, none⟩ = some (.int .i64 ((rd_T73 l0_4 (rd l0_5 x24_2)).f1.f0)) ∧ w'.cell? ⟨(adv2.add (((rd l0_5 x24_2)).toNat * 9)).block, (adv2.add (((rd l0_5 x24_2)).toNat * 9)).off + 2, none⟩ = some (.int .i64 ((rd_T73 l0_4 (rd l0_5 x24_2)).f1.f1)) ∧ w'.cell? ⟨(adv2.add (((rd l0_5 x24_2)).toNat * 9)).block, (adv2.add (((rd l0_5 x24_2)).toNat * 9)).off + 3, none⟩ = some (.int .i64 ((rd_T73 l0_4 (rd l0_5 x24_2)).f1.f2)) ∧ w'.cell? ⟨(adv2.add (((rd l0_5 x24_2)).toNat * 9)).block, (adv2.add (((rd l0_5 x24_2)).toNat * 9)).off + 4, none⟩ = some (.int .i64 ((rd_T73 l0_4 (rd l0_5 x24_2)).f2)) ∧ w'.cell? ⟨(adv2.add (((rd l0_5 x24_2)).toNat * 9)).block, (adv2.add (((rd l0_5 x24_2)).toNat * 9)).off + 5, none⟩ = some (.int .i64 ((rd_T73 l0_4 (rd l0_5 x24_2)).f3)) ∧ w'.cell? ⟨(adv2.add (((rd l0_5 x24_2)).toNat * 9)).block, (adv2.add (((rd l0_5 x24_2)).toNat * 9)).off + 6, none⟩ = some (.int .i64 ((rd_T73 l0_4 (rd l0_5 x24_2)).f4)) ∧ w'.cell? ⟨(adv2.add (((rd l0_5 x24_2)).toNat * 9)).block, (adv2.add (((rd l0_5 x24_2)).toNat * 9)).off + 7, none⟩ = some (.int .i64 ((rd_T73 l0_4 (rd l0_5 x24_2)).f5.f0)) ∧ w'.cell? ⟨(adv2.add (((rd l0_5 x24_2)).toNat * 9)).block, (adv2.add (((rd l0_5 x24_2)).toNat * 9)).off + 8, none⟩ = some (.slice Av1 ((rd_T73 l0_4 (rd l0_5 x24_2)).f5.f1).length cv1)) (ds := []) (bm 48 0) (by kernel_rfl) rfl (by kernel_rfl) ⟨cK BKz1.out 0, cK BKz1.out 1, cK BKz1.out 2, cK BKz1.out 3, cK BKz1.out 4, cK BKz1.out 5, cK BKz1.out 6, cK BKz1.out 7, (bc HB.out hwv9 :), (bc HB.out hwv8 :), (bc HB.out hwv7 :), (bc HB.out hwv6 :), (bc HB.out hwv5 :), (bc HB.out hwv4 :), (bc HB.out hwv3 :), (bc HB.out hwv2 :), (bc HB.out hwv1 :), (bc HB.out hwv10 :), (bc HB.out hwv19 :), (bc HB.out hwv18 :), (bc HB.out hwv17 :), (bc HB.out hwv16 :), (bc HB.out hwv15 :), (bc HB.out hwv14 :), (bc HB.out hwv13 :), (bc HB.out hwv12 :), (bc HB.out hwv11 :), (bc HB.out hwv28 :), (bc HB.out hwv27 :), (bc HB.out hwv26 :), (bc HB.out hwv25 :), (bc HB.out hwv24 :), (bc HB.out hwv23 :), (bc HB.out hwv22 :), (bc HB.out hwv21 :), (bc HB.out hwv20 :)⟩ (fun hHeld => ?_); refine with_tabW impl_orderOk.tab11 impl_orderOk.bits11 (fun HT_ HW_ => ?_)
            generalize wr.drew = wv1 at BKz1 HB HRv1 HRv2 HRv3 hxv2 hxv3 hxv4 hxv5 hxv6 hxv7 hxv8 hxv9 hxv10 hxv11 hxv12 hxv13 hxv14 hxv15 hxv16 hxv17 hxv18 hxv19 hxv20 hxv21 hxv22 hxv23 hxv24 hxv25 hxv26 hxv27 hxv28 hxv29 hHeld ⊢
            refine pZ 0 29 (bm 48 1) HT_.out ?_
            refine pZ 1 30 (bm 48 3) HT_.out ?_
            refine tZ 2 31 (bm 48 7) HT_.out HW_.out hHeld ?_
            refine pZ 3 32 (bm 48 15) HT_.out ?_
            refine pZ 4 33 (bm 48 31) HT_.out ?_
            refine oZ 5 (some 34) (bm 48 63) HT_.out (fun K hK => ?_)
            refine goesN Tryz.func102 #[.int .i64 (rd l0_5 x24_2), .int .i64 0, .int .i64 (wrap64 ((l0_4.length : Int) - 1))] ?_
            with_reducible refine (impl_from.calls _ _ _ _ _ A18.out).mono ?_
            rintro e w' ⟨rfl, ⟨nd, rfl⟩⟩
            refine ⟨_, rfl, ?_⟩
            obtain ⟨iv1, hiv4, _, hszv1, _⟩ := info_parts info3
            obtain ⟨hcutv1, hAv1, hCv1⟩ := print_take_of (P := Tryz.prog) (Value.int .i64) 0 28 3 .i64 Tryz.underlying28 hiv4 hszv1 (some adv1) c0_5 l0_5 x24_2 (odA) (odA) HC0_5.out
            have HRv4 := aM (Kd.C_of_reads (h1 := fun _ => rfl) (hAv1 _ (Kd.reads_of_C HR0_5.out)))
            have HCv4 := aM hCv1
            clear hAv1 hCv1 hiv4 hszv1
            refine hK.out _ _ ⟨cK BKz1.out 0, cK BKz1.out 1, cK BKz1.out 2, cK BKz1.out 3, cK BKz1.out 4, cK BKz1.out 5, cK BKz1.out 6, cK BKz1.out 7, (bc HB.out hwv9 :), (bc HB.out hwv8 :), (bc HB.out hwv7 :), (bc HB.out hwv6 :), (bc HB.out hwv5 :), (bc HB.out hwv4 :), (bc HB.out hwv3 :), (bc HB.out hwv2 :), (bc HB.out hwv1 :), (bc HB.out hwv10 :), (bc HB.out hwv19 :), (bc HB.out hwv18 :), (bc HB.out hwv17 :), (bc HB.out hwv16 :), (bc HB.out hwv15 :), (bc HB.out hwv14 :), (bc HB.out hwv13 :), (bc HB.out hwv12 :), (bc HB.out hwv11 :), (bc HB.out hwv28 :), (bc HB.out hwv27 :), (bc HB.out hwv26 :), (bc HB.out hwv25 :), (bc HB.out hwv24 :), (bc HB.out hwv23 :), (bc HB.out hwv22 :), (bc HB.out hwv21 :), (bc HB.out hwv20 :)⟩ (fun hHeld => ?_)
            clear hK K
            refine nZ 34 ?_
            refine pZ 6 35 (bm 48 127) HT_.out ?_
            refine pZ 7 36 (bm 48 255) HT_.out ?_
            refine pZ 8 37 (bm 48 511) HT_.out ?_
            refine pZ 10 39 (bm 48 1535) HT_.out ?_
            refine tZ 9 38 (bm 48 2047) HT_.out HW_.out hHeld ?_
            refine pZ 11 40 (bm 48 4095) HT_.out ?_
            refine pZ 12 41 (bm 48 8191) HT_.out ?_
            refine tZ 13 42 (bm 48 16383) HT_.out HW_.out hHeld ?_
            refine pZ 14 43 (bm 48 32767) HT_.out ?_
            refine pZ 15 44 (bm 48 65535) HT_.out ?_
            refine pZ 16 45 (bm 48 131071) HT_.out ?_
            refine pZ 17 46 (bm 48 262143) HT_.out ?_
            refine pZ 19 48 (bm 48 786431) HT_.out ?_
            refine pZ 21 50 (bm 48 2883583) HT_.out ?_
            refine tZ 18 47 (bm 48 3145727) HT_.out HW_.out hHeld ?_
            refine pZ 20 49 (bm 48 4194303) HT_.out ?_
            refine oZ 22 (some 51) (bm 48 8388607) HT_.out (fun K hK => ?_)
            refine goes_ Tryz.func175 (by kernel_rfl) rfl #[.slice (some adv1) (l0_5.take (x24_2 : Int).toNat).length c0_5, .int .i64 (rd l0_5 x24_2)] (by rfl) rfl rfl (by (try simp only [List.map_toArray, List.map_cons, List.map_nil]); first | done | (rw [show (l0_5.take (x24_2 : Int).toNat).length = x24_2.toNat from (by rw [List.length_take]; have h_ : (x24_2 : Int) ≤ (l0_5.length : Int) := odA; omega)] <;> rfl) | rfl | (simp only [List.length_drop, List.length_take]; rfl)) ?_
            with_reducible refine (slices_Contains_int_int.calls _ _ _ _ _ _ _ ?side1 ?side2 A26.out).mono ?_
            (case side1 => repeat (first | exact (Kd.C_below HRv4.out (hX HB.out)) | (with_reducible refine Kd.C_alloc ?_ _) | (with_reducible refine Kd.C_drewN ?_ _) | (with_reducible refine Kd.C_drew ?_)))
            (case side2 => exact HCv4.out)
            rintro e w' ⟨rfl, ⟨nd, rfl⟩⟩
            refine ⟨_, rfl, ?_⟩
            refine hK.out _ _ ⟨cK BKz1.out 0, cK BKz1.out 1, cK BKz1.out 2, cK BKz1.out 3, cK BKz1.out 4, cK BKz1.out 5, cK BKz1.out 6, cK BKz1.out 7, (bc HB.out hwv9 :), (bc HB.out hwv8 :), (bc HB.out hwv7 :), (bc HB.out hwv6 :), (bc HB.out hwv5 :), (bc HB.out hwv4 :), (bc HB.out hwv3 :), (bc HB.out hwv2 :), (bc HB.out hwv1 :), (bc HB.out hwv10 :), (bc HB.out hwv19 :), (bc HB.out hwv18 :), (bc HB.out hwv17 :), (bc HB.out hwv16 :), (bc HB.out hwv15 :), (bc HB.out hwv14 :), (bc HB.out hwv13 :), (bc HB.out hwv12 :), (bc HB.out hwv11 :), (bc HB.out hwv28 :), (bc HB.out hwv27 :), (bc HB.out hwv26 :), (bc HB.out hwv25 :), (bc HB.out hwv24 :), (bc HB.out hwv23 :), (bc HB.out hwv22 :), (bc HB.out hwv21 :), (bc HB.out hwv20 :)⟩ (fun hHeld => ?_)
            clear hK K
            refine nZ 51 ?_
            refine pZ 23 52 (bm 48 16777215) HT_.out ?_
            refine pZ 24 53 (bm 48 33554431) HT_.out ?_
            refine pZ 25 54 (bm 48 67108863) HT_.out ?_
            refine pZ 26 55 (bm 48 134217727) HT_.out ?_
            refine pZ 27 56 (bm 48 268435455) HT_.out ?_
            refine pZ 28 57 (bm 48 536870911) HT_.out ?_
            refine pZ 30 59 (bm 48 1610612735) HT_.out ?_
            refine pZ 32 61 (bm 48 5905580031) HT_.out ?_
            refine pZ 33 62 (bm 48 14495514623) HT_.out ?_
            refine pZ 39 68 (bm 48 564251328511) HT_.out ?_
            refine pZ 41 70 (bm 48 2763274584063) HT_.out ?_
            refine tZ 29 58 (bm 48 2763811454975) HT_.out HW_.out hHeld ?_
            refine tZ 31 60 (bm 48 2765958938623) HT_.out HW_.out hHeld ?_
            refine pZ 34 63 (bm 48 2783138807807) HT_.out ?_
            refine tZ 35 64 (bm 48 2817498546175) HT_.out HW_.out hHeld ?_
            refine pZ 36 65 (bm 48 2886218022911) HT_.out ?_
            refine pZ 37 66 (bm 48 3023656976383) HT_.out ?_
            refine tZ 38 67 (bm 48 3298534883327) HT_.out HW_.out hHeld ?_
            refine tZ 40 69 (bm 48 4398046511103) HT_.out HW_.out hHeld ?_
            refine pZ 42 71 (bm 48 8796093022207) HT_.out ?_
            refine pZ 43 72 (bm 48 17592186044415) HT_.out ?_
            refine tZ 44 73 (bm 48 35184372088831) HT_.out HW_.out hHeld ?_
            refine pZ 45 74 (bm 48 70368744177663) HT_.out ?_
            refine pZ 46 75 (bm 48 140737488355327) HT_.out ?_
            refine pZ 47 76 (bm 48 281474976710655) HT_.out ?_
            refine done_ (done_of HT_.out (by kernel_rfl)) ?_
            try go_wp2
            go_ret
            exact ⟨by first | rfl | (simp [errW_none, errW_some] <;> rfl) | (simp only [← hji31]; first | rfl | (simp [errW_none, errW_some] <;> rfl)) | (simp [*, errW_none, errW_some] <;> rfl), (hX HB.out)⟩
          rw [if_neg c36] at H
          have c36b0 := decide_eq_false c36
          clear c36
          have H' := aM H
          clear H
          have pv1 : 0 ≤ (x24_2 : Int) := odA
          have qv1 : x24_2 < (l0_5.length : Int) := odA
          obtain ⟨adv1, ev1, hxv1⟩ := at_ib HR0_5.out HB.out x24_2 pv1 qv1
          cases ev1
          replace pv1 := eq_true pv1
          replace qv1 := eq_true qv1
          try go_wp2
          replace BKz1 := aM (blk_drew BKz1.out)
          replace HB := aM (below_drew1 HB.out)
          have pv2 : 0 ≤ ((rd l0_5 x24_2) : Int) := odA
          have qv2 : (rd l0_5 x24_2) < (l0_4.length : Int) := odA
          obtain ⟨adv2, Av1, cv1, ev2, hxv2, hxv3, hxv4, hxv5, hxv6, hxv7, hxv8, hxv9, hxv10, hlv1, hiv1⟩ := at_T73 HR0_4.out (rd l0_5 x24_2) pv2 qv2
          have hwv1 := hxv10
          have hwv2 := hxv9
          have hwv3 := hxv8
          have hwv4 := hxv7
          have hwv5 := hxv6
          have hwv6 := hxv5
          have hwv7 := hxv4
          have hwv8 := hxv3
          have hwv9 := hxv2
          cases ev2
          replace hxv2 := bc HB.out hxv2
          replace hxv3 := bc HB.out hxv3
          replace hxv4 := bc HB.out hxv4
          replace hxv5 := bc HB.out hxv5
          replace hxv6 := bc HB.out hxv6
          replace hxv7 := bc HB.out hxv7
          replace hxv8 := bc HB.out hxv8
          replace hxv9 := bc HB.out hxv9
          replace hxv10 := bc HB.out hxv10
          have HRv1 := aM hiv1
          have HCv1 := aM hlv1
          clear hiv1 hlv1
          replace pv2 := eq_true pv2
          replace qv2 := eq_true qv2
          have pv3 : 0 ≤ ((ji31) : Int) := odA
          have qv3 : (ji31) < (l0_5.length : Int) := odA
          obtain ⟨adv3, ev3, hxv11⟩ := Kd.at_int HR0_5.out (ji31) pv3 qv3
          have hwv10 := hxv11
          obtain rfl : adv1 = adv3 := (by injection ev3)
          replace hxv11 := bc HB.out hxv11
          replace pv3 := eq_true pv3
          replace qv3 := eq_true qv3
          have pv4 : 0 ≤ ((rd l0_5 (ji31)) : Int) := odA
          have qv4 : (rd l0_5 (ji31)) < (l0_4.length : Int) := odA
          obtain ⟨adv4, Av2, cv2, ev4, hxv12, hxv13, hxv14, hxv15, hxv16, hxv17, hxv18, hxv19, hxv20, hlv2, hiv2⟩ := at_T73 HR0_4.out (rd l0_5 (ji31)) pv4 qv4
          have hwv11 := hxv20
          have hwv12 := hxv19
          have hwv13 := hxv18
          have hwv14 := hxv17
          have hwv15 := hxv16
          have hwv16 := hxv15
          have hwv17 := hxv14
          have hwv18 := hxv13
          have hwv19 := hxv12
          obtain rfl : adv2 = adv4 := (by injection ev4)
          replace hxv12 := bc HB.out hxv12
          replace hxv13 := bc HB.out hxv13
          replace hxv14 := bc HB.out hxv14
          replace hxv15 := bc HB.out hxv15
          replace hxv16 := bc HB.out hxv16
          replace hxv17 := bc HB.out hxv17
          replace hxv18 := bc HB.out hxv18
          replace hxv19 := bc HB.out hxv19
          replace hxv20 := bc HB.out hxv20
          have HRv2 := aM hiv2
          have HCv2 := aM hlv2
          clear hiv2 hlv2
          replace pv4 := eq_true pv4
          replace qv4 := eq_true qv4
          have pv5 : 0 ≤ ((rd l0_5 x24_2) : Int) := odA
          have qv5 : (rd l0_5 x24_2) < (l0_4.length : Int) := odA
          obtain ⟨adv5, Av3, cv3, ev5, hxv21, hxv22, hxv23, hxv24, hxv25, hxv26, hxv27, hxv28, hxv29, hlv3, hiv3⟩ := at_T73 HR0_4.out (rd l0_5 x24_2) pv5 qv5
          have hwv20 := hxv29
          have hwv21 := hxv28
          have hwv22 := hxv27
          have hwv23 := hxv26
          have hwv24 := hxv25
          have hwv25 := hxv24
          have hwv26 := hxv23
          have hwv27 := hxv22
          have hwv28 := hxv21
          obtain rfl : adv2 = adv5 := (by injection ev5)
          replace hxv21 := bc HB.out hxv21
          replace hxv22 := bc HB.out hxv22
          replace hxv23 := bc HB.out hxv23
          replace hxv24 := bc HB.out hxv24
          replace hxv25 := bc HB.out hxv25
          replace hxv26 := bc HB.out hxv26
          replace hxv27 := bc HB.out hxv27
          replace hxv28 := bc HB.out hxv28
          replace hxv29 := bc HB.out hxv29
          have HRv3 := aM hiv3
          have HCv3 := aM hlv3
          clear hiv3 hlv3
          replace pv5 := eq_true pv5
          replace qv5 := eq_true qv5
          have ea_ := Option.some.inj (hxv10.symm.trans hxv29)
          injection ea_ with ea_ en_ ec_
          subst ea_
          subst ec_
          clear en_
          refine start_ (n := 48) (S := fun w' => w'.cell? ⟨gbz1, 0, none⟩ = some (.slice A0_0 l0_0.length c0_0) ∧ w'.cell? ⟨gbz1, 1, none⟩ = some (.slice A0_1 l0_1.length c0_1) ∧ w'.cell? ⟨gbz1, 2, none⟩ = some (.slice A0_2 l0_2.length c0_2) ∧ w'.cell? ⟨gbz1, 3, none⟩ = some (.int .i64 a0_3) ∧ w'.cell? ⟨gbz1, 4, none⟩ = some (.slice (some adv2) l0_4.length c0_4) ∧ w'.cell? ⟨gbz1, 5, none⟩ = some (.slice (some adv1) l0_5.length c0_5) ∧ w'.cell? ⟨gbz1, 6, none⟩ = some (.slice A0_6 l0_6.length c0_6) ∧ w'.cell? ⟨gbz1, 7, none⟩ = some (.int .i64 a0_7) ∧ w'.cell? (adv2.add (((rd l0_5 x24_2)).toNat * 9)) = some (.int .i64 ((rd_T73 l0_4 (rd l0_5 x24_2)).f0)) ∧ w'.cell? ⟨(adv2.add (((rd l0_5 x24_2)).toNat * 9)).block, (adv2.add (((rd l0_5 x24_2)).toNat * 9)).off + 1, none⟩ = some (.int .i64 ((rd_T73 l0_4 (rd l0_5 x24_2)).f1.f0)) ∧ w'.cell? ⟨(adv2.add (((rd l0_5 x24_2)).toNat * 9)).block, (adv2.add (((rd l0_5 x24_2)).toNat * 9)).off + 2, none⟩ = some (.int .i64 ((rd_T73 l0_4 (rd l0_5 x24_2)).f1.f1)) ∧ w'.cell? ⟨(adv2.add (((rd l0_5 x24_2)).toNat * 9)).block, (adv2.add (((rd l0_5 x24_2)).toNat * 9)).off + 3, none⟩ = some (.int .i64 ((rd_T73 l0_4 (rd l0_5 x24_2)).f1.f2)) ∧ w'.cell? ⟨(adv2.add (((rd l0_5 x24_2)).toNat * 9)).block, (adv2.add (((rd l0_5 x24_2)).toNat * 9)).off + 4, none⟩ = some (.int .i64 ((rd_T73 l0_4 (rd l0_5 x24_2)).f2)) ∧ w'.cell? ⟨(adv2.add (((rd l0_5 x24_2)).toNat * 9)).block, (adv2.add (((rd l0_5 x24_2)).toNat * 9)).off + 5, none⟩ = some (.int .i64 ((rd_T73 l0_4 (rd l0_5 x24_2)).f3)) ∧ w'.cell? ⟨(adv2.add (((rd l0_5 x24_2)).toNat * 9)).block, (adv2.add (((rd l0_5 x24_2)).toNat * 9)).off + 6, none⟩ = some (.int .i64 ((rd_T73 l0_4 (rd l0_5 x24_2)).f4)) ∧ w'.cell? ⟨(adv2.add (((rd l0_5 x24_2)).toNat * 9)).block, (adv2.add (((rd l0_5 x24_2)).toNat * 9)).off + 7, none⟩ = some (.int .i64 ((rd_T73 l0_4 (rd l0_5 x24_2)).f5.f0)) ∧ w'.cell? ⟨(adv2.add (((rd l0_5 x24_2)).toNat * 9)).block, (adv2.add (((rd l0_5 x24_2)).toNat * 9)).off + 8, none⟩ = some (.slice Av1 ((rd_T73 l0_4 (rd l0_5 x24_2)).f5.f1).length cv1) ∧ w'.cell? (adv1.add ((ji31)).toNat) = some (.int .i64 (rd l0_5 (ji31))) ∧ w'.cell? (adv2.add (((rd l0_5 (ji31))).toNat * 9)) = some (.int .i64 ((rd_T73 l0_4 (rd l0_5 (ji31))).f0)) ∧ w'.cell? ⟨(adv2.add (((rd l0_5 (ji31))).toNat * 9)).block, (adv2.add (((rd l0_5 (ji31))).toNat * 9)).off + 1, none⟩ = some (.int .i64 ((rd_T73 l0_4 (rd l0_5 (ji31))).f1.f0)) ∧ w'.cell? ⟨(adv2.add (((rd l0_5 (ji31))).toNat * 9)).block, (adv2.add (((rd l0_5 (ji31))).toNat * 9)).off + 2, none⟩ = some (.int .i64 ((rd_T73 l0_4 (rd l0_5 (ji31))).f1.f1)) ∧ w'.cell? ⟨(adv2.add (((rd l0_5 (ji31))).toNat * 9)).block, (adv2.add (((rd l0_5 (ji31))).toNat * 9)).off + 3, none⟩ = some (.int .i64 ((rd_T73 l0_4 (rd l0_5 (ji31))).f1.f2)) ∧ w'.cell? ⟨(adv2.add (((rd l0_5 (ji31))).toNat * 9)).block, (adv2.add (((rd l0_5 (ji31))).toNat * 9)).off + 4, none⟩ = some (.int .i64 ((rd_T73 l0_4 (rd l0_5 (ji31))).f2)) ∧ w'.cell? ⟨(adv2.add (((rd l0_5 (ji31))).toNat * 9)).block, (adv2.add (((rd l0_5 (ji31))).toNat * 9)).off + 5, none⟩ = some (.int .i64 ((rd_T73 l0_4 (rd l0_5 (ji31))).f3)) ∧ w'.cell? ⟨(adv2.add (((rd l0_5 (ji31))).toNat * 9)).block, (adv2.add (((rd l0_5 (ji31))).toNat * 9)).off + 6, none⟩ = some (.int .i64 ((rd_T73 l0_4 (rd l0_5 (ji31))).f4)) ∧ w'.cell? ⟨(adv2.add (((rd l0_5 (ji31))).toNat * 9)).block, (adv2.add (((rd l0_5 (ji31))).toNat * 9)).off + 7, none⟩ = some (.int .i64 ((rd_T73 l0_4 (rd l0_5 (ji31))).f5.f0)) ∧ w'.cell? ⟨(adv2.add (((rd l0_5 (ji31))).toNat * 9)).block, (adv2.add (((rd l0_5 (ji31))).toNat * 9)).off + 8, none⟩ = some (.slice Av2 ((rd_T73 l0_4 (rd l0_5 (ji31))).f5.f1).length cv2) ∧ w'.cell? (adv2.add (((rd l0_5 x24_2)).toNat * 9)) = some (.int .i64 ((rd_T73 l0_4 (rd l0_5 x24_2)).f0)) ∧ w'.cell? ⟨(adv2.add (((rd l0_5 x24_2)).toNat * 9)).block, (adv2.add (((rd l0_5 x24_2)).toNat * 9)).off + 1, none⟩ = some (.int .i64 ((rd_T73 l0_4 (rd l0_5 x24_2)).f1.f0)) ∧ w'.cell? ⟨(adv2.add (((rd l0_5 x24_2)).toNat * 9)).block, (adv2.add (((rd l0_5 x24_2)).toNat * 9)).off + 2, none⟩ = some (.int .i64 ((rd_T73 l0_4 (rd l0_5 x24_2)).f1.f1)) ∧ w'.cell? ⟨(adv2.add (((rd l0_5 x24_2)).toNat * 9)).block, (adv2.add (((rd l0_5 x24_2)).toNat * 9)).off + 3, none⟩ = some (.int .i64 ((rd_T73 l0_4 (rd l0_5 x24_2)).f1.f2)) ∧ w'.cell? ⟨(adv2.add (((rd l0_5 x24_2)).toNat * 9)).block, (adv2.add (((rd l0_5 x24_2)).toNat * 9)).off + 4, none⟩ = some (.int .i64 ((rd_T73 l0_4 (rd l0_5 x24_2)).f2)) ∧ w'.cell? ⟨(adv2.add (((rd l0_5 x24_2)).toNat * 9)).block, (adv2.add (((rd l0_5 x24_2)).toNat * 9)).off + 5, none⟩ = some (.int .i64 ((rd_T73 l0_4 (rd l0_5 x24_2)).f3)) ∧ w'.cell? ⟨(adv2.add (((rd l0_5 x24_2)).toNat * 9)).block, (adv2.add (((rd l0_5 x24_2)).toNat * 9)).off + 6, none⟩ = some (.int .i64 ((rd_T73 l0_4 (rd l0_5 x24_2)).f4)) ∧ w'.cell? ⟨(adv2.add (((rd l0_5 x24_2)).toNat * 9)).block, (adv2.add (((rd l0_5 x24_2)).toNat * 9)).off + 7, none⟩ = some (.int .i64 ((rd_T73 l0_4 (rd l0_5 x24_2)).f5.f0)) ∧ w'.cell? ⟨(adv2.add (((rd l0_5 x24_2)).toNat * 9)).block, (adv2.add (((rd l0_5 x24_2)).toNat * 9)).off + 8, none⟩ = some (.slice Av1 ((rd_T73 l0_4 (rd l0_5 x24_2)).f5.f1).length cv1)) (ds := []) (bm 48 0) (by kernel_rfl) rfl (by kernel_rfl) ⟨cK BKz1.out 0, cK BKz1.out 1, cK BKz1.out 2, cK BKz1.out 3, cK BKz1.out 4, cK BKz1.out 5, cK BKz1.out 6, cK BKz1.out 7, (bc HB.out hwv9 :), (bc HB.out hwv8 :), (bc HB.out hwv7 :), (bc HB.out hwv6 :), (bc HB.out hwv5 :), (bc HB.out hwv4 :), (bc HB.out hwv3 :), (bc HB.out hwv2 :), (bc HB.out hwv1 :), (bc HB.out hwv10 :), (bc HB.out hwv19 :), (bc HB.out hwv18 :), (bc HB.out hwv17 :), (bc HB.out hwv16 :), (bc HB.out hwv15 :), (bc HB.out hwv14 :), (bc HB.out hwv13 :), (bc HB.out hwv12 :), (bc HB.out hwv11 :), (bc HB.out hwv28 :), (bc HB.out hwv27 :), (bc HB.out hwv26 :), (bc HB.out hwv25 :), (bc HB.out hwv24 :), (bc HB.out hwv23 :), (bc HB.out hwv22 :), (bc HB.out hwv21 :), (bc HB.out hwv20 :)⟩ (fun hHeld => ?_); refine with_tabW impl_orderOk.tab11 impl_orderOk.bits11 (fun HT_ HW_ => ?_)
          generalize wr.drew = wv1 at BKz1 HB HRv1 HRv2 HRv3 hxv2 hxv3 hxv4 hxv5 hxv6 hxv7 hxv8 hxv9 hxv10 hxv11 hxv12 hxv13 hxv14 hxv15 hxv16 hxv17 hxv18 hxv19 hxv20 hxv21 hxv22 hxv23 hxv24 hxv25 hxv26 hxv27 hxv28 hxv29 hHeld ⊢
          refine pZ 0 29 (bm 48 1) HT_.out ?_
          refine pZ 1 30 (bm 48 3) HT_.out ?_
          refine tZ 2 31 (bm 48 7) HT_.out HW_.out hHeld ?_
          refine pZ 3 32 (bm 48 15) HT_.out ?_
          refine pZ 4 33 (bm 48 31) HT_.out ?_
          refine oZ 5 (some 34) (bm 48 63) HT_.out (fun K hK => ?_)
          refine goesN Tryz.func102 #[.int .i64 (rd l0_5 x24_2), .int .i64 0, .int .i64 (wrap64 ((l0_4.length : Int) - 1))] ?_
          with_reducible refine (impl_from.calls _ _ _ _ _ A18.out).mono ?_
          rintro e w' ⟨rfl, ⟨nd, rfl⟩⟩
          refine ⟨_, rfl, ?_⟩
          obtain ⟨iv1, hiv4, _, hszv1, _⟩ := info_parts info3
          obtain ⟨hcutv1, hAv1, hCv1⟩ := print_take_of (P := Tryz.prog) (Value.int .i64) 0 28 3 .i64 Tryz.underlying28 hiv4 hszv1 (some adv1) c0_5 l0_5 x24_2 (odA) (odA) HC0_5.out
          have HRv4 := aM (Kd.C_of_reads (h1 := fun _ => rfl) (hAv1 _ (Kd.reads_of_C HR0_5.out)))
          have HCv4 := aM hCv1
          clear hAv1 hCv1 hiv4 hszv1
          refine hK.out _ _ ⟨cK BKz1.out 0, cK BKz1.out 1, cK BKz1.out 2, cK BKz1.out 3, cK BKz1.out 4, cK BKz1.out 5, cK BKz1.out 6, cK BKz1.out 7, (bc HB.out hwv9 :), (bc HB.out hwv8 :), (bc HB.out hwv7 :), (bc HB.out hwv6 :), (bc HB.out hwv5 :), (bc HB.out hwv4 :), (bc HB.out hwv3 :), (bc HB.out hwv2 :), (bc HB.out hwv1 :), (bc HB.out hwv10 :), (bc HB.out hwv19 :), (bc HB.out hwv18 :), (bc HB.out hwv17 :), (bc HB.out hwv16 :), (bc HB.out hwv15 :), (bc HB.out hwv14 :), (bc HB.out hwv13 :), (bc HB.out hwv12 :), (bc HB.out hwv11 :), (bc HB.out hwv28 :), (bc HB.out hwv27 :), (bc HB.out hwv26 :), (bc HB.out hwv25 :), (bc HB.out hwv24 :), (bc HB.out hwv23 :), (bc HB.out hwv22 :), (bc HB.out hwv21 :), (bc HB.out hwv20 :)⟩ (fun hHeld => ?_)
          clear hK K
          refine nZ 34 ?_
          refine pZ 6 35 (bm 48 127) HT_.out ?_
          refine pZ 7 36 (bm 48 255) HT_.out ?_
          refine pZ 8 37 (bm 48 511) HT_.out ?_
          refine pZ 10 39 (bm 48 1535) HT_.out ?_
          refine tZ 9 38 (bm 48 2047) HT_.out HW_.out hHeld ?_
          refine pZ 11 40 (bm 48 4095) HT_.out ?_
          refine pZ 12 41 (bm 48 8191) HT_.out ?_
          refine tZ 13 42 (bm 48 16383) HT_.out HW_.out hHeld ?_
          refine pZ 14 43 (bm 48 32767) HT_.out ?_
          refine pZ 15 44 (bm 48 65535) HT_.out ?_
          refine pZ 16 45 (bm 48 131071) HT_.out ?_
          refine pZ 17 46 (bm 48 262143) HT_.out ?_
          refine pZ 19 48 (bm 48 786431) HT_.out ?_
          refine pZ 21 50 (bm 48 2883583) HT_.out ?_
          refine tZ 18 47 (bm 48 3145727) HT_.out HW_.out hHeld ?_
          refine pZ 20 49 (bm 48 4194303) HT_.out ?_
          refine oZ 22 (some 51) (bm 48 8388607) HT_.out (fun K hK => ?_)
          refine goes_ Tryz.func175 (by kernel_rfl) rfl #[.slice (some adv1) (l0_5.take (x24_2 : Int).toNat).length c0_5, .int .i64 (rd l0_5 x24_2)] (by rfl) rfl rfl (by (try simp only [List.map_toArray, List.map_cons, List.map_nil]); first | done | (rw [show (l0_5.take (x24_2 : Int).toNat).length = x24_2.toNat from (by rw [List.length_take]; have h_ : (x24_2 : Int) ≤ (l0_5.length : Int) := odA; omega)] <;> rfl) | rfl | (simp only [List.length_drop, List.length_take]; rfl)) ?_
          with_reducible refine (slices_Contains_int_int.calls _ _ _ _ _ _ _ ?side1 ?side2 A26.out).mono ?_
          (case side1 => repeat (first | exact (Kd.C_below HRv4.out (hX HB.out)) | (with_reducible refine Kd.C_alloc ?_ _) | (with_reducible refine Kd.C_drewN ?_ _) | (with_reducible refine Kd.C_drew ?_)))
          (case side2 => exact HCv4.out)
          rintro e w' ⟨rfl, ⟨nd, rfl⟩⟩
          refine ⟨_, rfl, ?_⟩
          refine hK.out _ _ ⟨cK BKz1.out 0, cK BKz1.out 1, cK BKz1.out 2, cK BKz1.out 3, cK BKz1.out 4, cK BKz1.out 5, cK BKz1.out 6, cK BKz1.out 7, (bc HB.out hwv9 :), (bc HB.out hwv8 :), (bc HB.out hwv7 :), (bc HB.out hwv6 :), (bc HB.out hwv5 :), (bc HB.out hwv4 :), (bc HB.out hwv3 :), (bc HB.out hwv2 :), (bc HB.out hwv1 :), (bc HB.out hwv10 :), (bc HB.out hwv19 :), (bc HB.out hwv18 :), (bc HB.out hwv17 :), (bc HB.out hwv16 :), (bc HB.out hwv15 :), (bc HB.out hwv14 :), (bc HB.out hwv13 :), (bc HB.out hwv12 :), (bc HB.out hwv11 :), (bc HB.out hwv28 :), (bc HB.out hwv27 :), (bc HB.out hwv26 :), (bc HB.out hwv25 :), (bc HB.out hwv24 :), (bc HB.out hwv23 :), (bc HB.out hwv22 :), (bc HB.out hwv21 :), (bc HB.out hwv20 :)⟩ (fun hHeld => ?_)
          clear hK K
          refine nZ 51 ?_
          refine pZ 23 52 (bm 48 16777215) HT_.out ?_
          refine pZ 24 53 (bm 48 33554431) HT_.out ?_
          refine pZ 25 54 (bm 48 67108863) HT_.out ?_
          refine pZ 26 55 (bm 48 134217727) HT_.out ?_
          refine pZ 27 56 (bm 48 268435455) HT_.out ?_
          refine pZ 28 57 (bm 48 536870911) HT_.out ?_
          refine pZ 30 59 (bm 48 1610612735) HT_.out ?_
          refine pZ 32 61 (bm 48 5905580031) HT_.out ?_
          refine pZ 33 62 (bm 48 14495514623) HT_.out ?_
          refine pZ 39 68 (bm 48 564251328511) HT_.out ?_
          refine pZ 41 70 (bm 48 2763274584063) HT_.out ?_
          refine tZ 29 58 (bm 48 2763811454975) HT_.out HW_.out hHeld ?_
          refine tZ 31 60 (bm 48 2765958938623) HT_.out HW_.out hHeld ?_
          refine pZ 34 63 (bm 48 2783138807807) HT_.out ?_
          refine tZ 35 64 (bm 48 2817498546175) HT_.out HW_.out hHeld ?_
          refine pZ 36 65 (bm 48 2886218022911) HT_.out ?_
          refine pZ 37 66 (bm 48 3023656976383) HT_.out ?_
          refine tZ 38 67 (bm 48 3298534883327) HT_.out HW_.out hHeld ?_
          refine tZ 40 69 (bm 48 4398046511103) HT_.out HW_.out hHeld ?_
          refine pZ 42 71 (bm 48 8796093022207) HT_.out ?_
          refine pZ 43 72 (bm 48 17592186044415) HT_.out ?_
          refine tZ 44 73 (bm 48 35184372088831) HT_.out HW_.out hHeld ?_
          refine pZ 45 74 (bm 48 70368744177663) HT_.out ?_
          refine pZ 46 75 (bm 48 140737488355327) HT_.out ?_
          refine pZ 47 76 (bm 48 281474976710655) HT_.out ?_
          refine done_ (done_of HT_.out (by kernel_rfl)) ?_
          try go_wp2
          go_roundg k2
          case measure => have := HKy1.out; have := HKw1.out; omega
          case rel => exact ⟨(wrap64 (x24_2 + 1)), rS, H', ⟨by have := HKy1.out; have := HKw1.out; omega⟩, ⟨(bX BKz1.out)⟩, ⟨(hX HB.out)⟩⟩
mutual
def impl_MachineOk.j0 : Nat → Int → Bool → List (S140) → List (S162) → List (S97) → Int → List (S73) → List Int → List Int → Int → Option (Bool)
  | 0, _, _, _, _, _, _, _, _, _, _ => none
  | k + 1, x3, x41, x102000, x102001, x102002, x102003, x102004, x102005, x102006, x102007 => if x41 = true then (some false) else (impl_MachineOk.l0 k x3 x102004 (x102004.length : Int) 0 x102000 x102001 x102002 x102003 x102004 x102005 x102006 x102007)
def impl_MachineOk.l0 : Nat → Int → List (S73) → Int → Int → List (S140) → List (S162) → List (S97) → Int → List (S73) → List Int → List Int → Int → Option (Bool)
  | 0, _, _, _, _, _, _, _, _, _, _, _, _ => none
  | k + 1, x3, x44, x45, x46, x102000, x102001, x102002, x102003, x102004, x102005, x102006, x102007 => if x46 < x45 then (if 0 ≤ x46 then (if x46 < (x44.length : Int) then ((impl_from.f ((rd_T73 x44 x46).f0) 0 (wrap64 (x3 - 1))).bind fun t107 => (if t107 = true then ((impl_OpOk.f k ((rd_T73 x44 x46).f1.f0) ((rd_T73 x44 x46).f1.f1) ((rd_T73 x44 x46).f1.f2)).bind fun t108 => (if t108 = true then ((impl_from.f ((rd_T73 x44 x46).f2) 0 x102003).bind fun t109 => (if t109 = true then ((impl_MachineOk_1.f ((rd_T73 x44 x46).f0) ((rd_T73 x44 x46).f1.f0) ((rd_T73 x44 x46).f1.f1) ((rd_T73 x44 x46).f1.f2) ((rd_T73 x44 x46).f2) ((rd_T73 x44 x46).f3) ((rd_T73 x44 x46).f4) ((rd_T73 x44 x46).f5.f0) ((rd_T73 x44 x46).f5.f1) ((rd_T73 x44 x46).f3) x102000 x102001 x102002 x102003 x102004 x102005 x102006 x102007).bind fun t110 => (if t110 = true then ((impl_MachineOk_1.f ((rd_T73 x44 x46).f0) ((rd_T73 x44 x46).f1.f0) ((rd_T73 x44 x46).f1.f1) ((rd_T73 x44 x46).f1.f2) ((rd_T73 x44 x46).f2) ((rd_T73 x44 x46).f3) ((rd_T73 x44 x46).f4) ((rd_T73 x44 x46).f5.f0) ((rd_T73 x44 x46).f5.f1) ((rd_T73 x44 x46).f4) x102000 x102001 x102002 x102003 x102004 x102005 x102006 x102007).bind fun t111 => (if t111 = true then (impl_MachineOk.l0 k x3 x44 x45 (wrap64 (x46 + 1)) x102000 x102001 x102002 x102003 x102004 x102005 x102006 x102007) else (some false))) else (some false))) else (some false))) else (some false))) else (some false))) else (none)) else (none)) else (impl_MachineOk.l1 k x3 x102002 (x102002.length : Int) 0 x102000 x102001 x102002 x102003 x102004 x102005 x102006 x102007)
def impl_MachineOk.l1 : Nat → Int → List (S97) → Int → Int → List (S140) → List (S162) → List (S97) → Int → List (S73) → List Int → List Int → Int → Option (Bool)
  | 0, _, _, _, _, _, _, _, _, _, _, _, _ => none
  | k + 1, x3, x88, x89, x90, x102000, x102001, x102002, x102003, x102004, x102005, x102006, x102007 => if x90 < x89 then (if 0 ≤ x90 then (if x90 < (x88.length : Int) then ((impl_ThreadOk.f k ((rd_T97 x88 x90).f0) ((rd_T97 x88 x90).f1) ((rd_T97 x88 x90).f2) ((rd_T97 x88 x90).f3) ((rd_T97 x88 x90).f4) x3).bind fun t115 => (if t115 = true then ((impl_callsOk.f k x102000 x102001 x102002 x102003 x102004 x102005 x102006 x102007 x90).bind fun t116 => (if t116 = true then (impl_MachineOk.l1 k x3 x88 x89 (wrap64 (x90 + 1)) x102000 x102001 x102002 x102003 x102004 x102005 x102006 x102007) else (some false))) else (some false))) else (none)) else (none)) else ((impl_orderOk.f k x102000 x102001 x102002 x102003 x102004 x102005 x102006 x102007).bind fun t112 => (some t112))
end
def impl_MachineOk.f (k : Nat) (l0_0 : List (S140)) (l0_1 : List (S162)) (l0_2 : List (S97)) (a0_3 : Int) (l0_4 : List (S73)) (l0_5 : List Int) (l0_6 : List Int) (a0_7 : Int) : Option (Bool) := (impl_MemOk.f k l0_0 l0_1).bind fun t102 => (if t102 = true then (if (l0_1.length : Int) = (l0_2.length : Int) then ((impl_from.f a0_3 0 100000).bind fun t103 => (if t103 = true then (if (l0_4.length : Int) > 40 then (impl_MachineOk.j0 k (l0_2.length : Int) true l0_0 l0_1 l0_2 a0_3 l0_4 l0_5 l0_6 a0_7) else ((impl_RowsOk.f k l0_6 a0_7).bind fun t104 => (impl_MachineOk.j0 k (l0_2.length : Int) (!t104) l0_0 l0_1 l0_2 a0_3 l0_4 l0_5 l0_6 a0_7))) else (impl_MachineOk.j0 k (l0_2.length : Int) true l0_0 l0_1 l0_2 a0_3 l0_4 l0_5 l0_6 a0_7))) else (impl_MachineOk.j0 k (l0_2.length : Int) true l0_0 l0_1 l0_2 a0_3 l0_4 l0_5 l0_6 a0_7)) else (impl_MachineOk.j0 k (l0_2.length : Int) true l0_0 l0_1 l0_2 a0_3 l0_4 l0_5 l0_6 a0_7))
set_option maxHeartbeats 8000000 in
set_option maxRecDepth 100000 in
theorem impl_MachineOk.calls (k : Nat) (A0_0 : Option Addr) (c0_0 : Nat) (l0_0 : List (S140)) (A0_1 : Option Addr) (c0_1 : Nat) (l0_1 : List (S162)) (A0_2 : Option Addr) (c0_2 : Nat) (l0_2 : List (S97)) (a0_3 : Int) (A0_4 : Option Addr) (c0_4 : Nat) (l0_4 : List (S73)) (A0_5 : Option Addr) (c0_5 : Nat) (l0_5 : List Int) (A0_6 : Option Addr) (c0_6 : Nat) (l0_6 : List Int) (a0_7 : Int) (r : Bool) (w : World) (hr0_0 : Kd.C k140 w A0_0 l0_0.length l0_0) (hc0_0 : l0_0.length ≤ c0_0) (hr0_1 : Kd.C k162 w A0_1 l0_1.length l0_1) (hc0_1 : l0_1.length ≤ c0_1) (hr0_2 : Kd.C k97 w A0_2 l0_2.length l0_2) (hc0_2 : l0_2.length ≤ c0_2) (hr0_4 : Kd.C k73 w A0_4 l0_4.length l0_4) (hc0_4 : l0_4.length ≤ c0_4) (hr0_5 : Kd.C (Kd.int .i64) w A0_5 l0_5.length l0_5) (hc0_5 : l0_5.length ≤ c0_5) (hr0_6 : Kd.C (Kd.int .i64) w A0_6 l0_6.length l0_6) (hc0_6 : l0_6.length ≤ c0_6) (h : impl_MachineOk.f k l0_0 l0_1 l0_2 a0_3 l0_4 l0_5 l0_6 a0_7 = some r) :
    Calls Tryz.prog 48 #[.agg #[.slice A0_0 l0_0.length c0_0, .slice A0_1 l0_1.length c0_1, .slice A0_2 l0_2.length c0_2, .int .i64 a0_3, .slice A0_4 l0_4.length c0_4, .slice A0_5 l0_5.length c0_5, .slice A0_6 l0_6.length c0_6, .int .i64 a0_7]] w fun e w' => e = .returned (.bool r) ∧ Below w.heap.size w w' := by
  have hu43 := Tryz.underlying43
  have hu38 := Tryz.underlying38
  have hu41 := Tryz.underlying41
  have hu73 := Tryz.underlying73
  have hu69 := Tryz.underlying69
  have hu97 := Tryz.underlying97
  have HR0_0 := aM hr0_0
  have HC0_0 := aM hc0_0
  clear hr0_0 hc0_0
  have HR0_1 := aM hr0_1
  have HC0_1 := aM hc0_1
  clear hr0_1 hc0_1
  have HR0_2 := aM hr0_2
  have HC0_2 := aM hc0_2
  clear hr0_2 hc0_2
  have HR0_4 := aM hr0_4
  have HC0_4 := aM hc0_4
  clear hr0_4 hc0_4
  have HR0_5 := aM hr0_5
  have HC0_5 := aM hc0_5
  clear hr0_5 hc0_5
  have HR0_6 := aM hr0_6
  have HC0_6 := aM hc0_6
  clear hr0_6 hc0_6
  have HB := aM (Below.refl w.heap.size w)
  have H := h
  unfold impl_MachineOk.f at H
  clear h
  have HC2 := aM H
  clear H
  go_enter Tryz.func48, Tryz.ntmps48
  go_upto_region 2 with (first | ((with_reducible refine gate_dst (N := 1) rfl ?_); (try (refine gate_guard (by rfl) ?_; dsimp only)); refine boxF 1 #[.slice A0_0 l0_0.length c0_0, .slice A0_1 l0_1.length c0_1, .slice A0_2 l0_2.length c0_2, .int .i64 a0_3, .slice A0_4 l0_4.length c0_4, .slice A0_5 l0_5.length c0_5, .slice A0_6 l0_6.length c0_6, .int .i64 a0_7] 43 ?_; intro gbz1 hg wz1 hbox hb; have BKz1 := aM (hbox); have GWz1 := aG hg HB; have GEz1 := aG hg HB; replace HB := aS HB hb; clear hb hbox hg; obtain ⟨hczz1, hczz2, hczz3, hczz4, hczz5, hczz6, hczz7, hczz8, hfzz1, hfzz2, hfzz3, hfzz4, hfzz5, hfzz6, hfzz7, hfzz8⟩ := cZ8 BKz1.out))
  (try simp only [Act.put, List.setIfInBounds_toArray, List.set_cons_zero, List.set_cons_succ])
  go_cut [41] (fun vz1 wc => ∃ (kq : Nat) (x41_1 : Bool), vz1 = .bool x41_1 ∧ Aside0 (impl_MachineOk.j0 kq (l0_2.length : Int) x41_1 l0_0 l0_1 l0_2 a0_3 l0_4 l0_5 l0_6 a0_7 = some r) ∧ Aside0 (kq ≤ k) ∧ Aside0 (wc.heap[gbz1]? = some (.cells #[(.slice A0_0 l0_0.length c0_0), (.slice A0_1 l0_1.length c0_1), (.slice A0_2 l0_2.length c0_2), .int .i64 a0_3, (.slice A0_4 l0_4.length c0_4), (.slice A0_5 l0_5.length c0_5), (.slice A0_6 l0_6.length c0_6), .int .i64 a0_7] 43 (0, 0))) ∧ Aside0 (Below w.heap.size w wc))
  case first =>
    have H := HC2.out
    clear HC2
    replace H := bE H; obtain ⟨t102, A5, H⟩ := H
    by_cases c6 : t102 = true
    case neg =>
      replace c6 := Bool.eq_false_iff.mpr c6
      subst c6
      rw [if_neg nft] at H
      have H' := aM H
      clear H
      obtain ⟨hczy1, hczy2, hczy3, hczy4, hczy5, hczy6, hczy7, hczy8, hfzy1, hfzy2, hfzy3, hfzy4, hfzy5, hfzy6, hfzy7, hfzy8⟩ := cZ8 BKz1.out
      go_wp2_with (first | (refine goesM 101 14 Tryz.func101 #[.agg #[.slice A0_0 l0_0.length c0_0, .slice A0_1 l0_1.length c0_1]] ?_; refine (impl_MemOk.calls _ _ _ _ _ _ _ _ _ (cC HR0_0.out HB.out) HC0_0.out (cC HR0_1.out HB.out) HC0_1.out A5.out).mono ?_; rintro e wy1 ⟨rfl, hb⟩; refine ⟨_, rfl, ?_⟩; replace BKz1 := aB BKz1 hb; replace HB := aS HB hb; clear hb))
      go_meet
      case rel => exact ⟨_, (true), rS, H', ⟨by first | omega | exact Nat.le_refl _⟩, ⟨(bX BKz1.out)⟩, ⟨(hX HB.out)⟩⟩
    subst c6
    rw [if_pos rfl] at H
    obtain ⟨hczy1, hczy2, hczy3, hczy4, hczy5, hczy6, hczy7, hczy8, hfzy1, hfzy2, hfzy3, hfzy4, hfzy5, hfzy6, hfzy7, hfzy8⟩ := cZ8 BKz1.out
    go_wp2_with (first | (refine goesM 101 14 Tryz.func101 #[.agg #[.slice A0_0 l0_0.length c0_0, .slice A0_1 l0_1.length c0_1]] ?_; refine (impl_MemOk.calls _ _ _ _ _ _ _ _ _ (cC HR0_0.out HB.out) HC0_0.out (cC HR0_1.out HB.out) HC0_1.out A5.out).mono ?_; rintro e wy1 ⟨rfl, hb⟩; refine ⟨_, rfl, ?_⟩; replace BKz1 := aB BKz1 hb; replace HB := aS HB hb; clear hb; obtain ⟨hczy9, hczy10, hczy11, hczy12, hczy13, hczy14, hczy15, hczy16, hfzy9, hfzy10, hfzy11, hfzy12, hfzy13, hfzy14, hfzy15, hfzy16⟩ := cZ8 BKz1.out; refine Stop.out ?_))
    refine ⟨?_⟩
    by_cases c7 : (l0_1.length : Int) = (l0_2.length : Int)
    case neg =>
      rw [if_neg c7] at H
      obtain ⟨c7b0, c7b1⟩ := eqF c7
      have c7b2 : (l0_1.length == l0_2.length) = false := by first | simpa using c7 | (simp at c7 ⊢; omega)
      (first | rw [c7b0] | (simp only [i64_w, i32_w]; rw [c7b0]) | skip)
      have H' := aM H
      clear H
      go_wp2
      go_meet
      case rel => exact ⟨_, (true), rS, H', ⟨by first | omega | exact Nat.le_refl _⟩, ⟨(bX BKz1.out)⟩, ⟨(hX HB.out)⟩⟩
    rw [if_pos c7] at H
    obtain ⟨c7b0, c7b1⟩ := eqT c7
    have c7b2 : (l0_1.length == l0_2.length) = true := by first | simpa using c7 | (simp at c7 ⊢; omega)
    clear c7
    (first | rw [c7b0] | (simp only [i64_w, i32_w]; rw [c7b0]) | skip)
    replace H := bE H; obtain ⟨t103, A8, H⟩ := H
    by_cases c9 : t103 = true
    case neg =>
      replace c9 := Bool.eq_false_iff.mpr c9
      subst c9
      rw [if_neg nft] at H
      have H' := aM H
      clear H
      go_wp2_with (first | (go_at_call 102; (with_reducible refine (impl_from.calls _ _ _ _ _ A8.out).mono ?_); rintro e w' ⟨rfl, ⟨nd, rfl⟩⟩))
      go_meet
      case rel => exact ⟨_, (true), rS, H', ⟨by first | omega | exact Nat.le_refl _⟩, ⟨(bX BKz1.out)⟩, ⟨(hX HB.out)⟩⟩
    subst c9
    rw [if_pos rfl] at H
    go_wp2_with (first | (go_at_call 102; (with_reducible refine (impl_from.calls _ _ _ _ _ A8.out).mono ?_); rintro e w' ⟨rfl, ⟨nd, rfl⟩⟩; refine Stop.out ?_))
    refine ⟨?_⟩
    by_cases c10 : (l0_4.length : Int) > 40
    · rw [if_pos c10] at H
      have c10b0 := decide_eq_true c10
      have c10b1 : decide (40 < l0_4.length) = true := decide_eq_true (by omega)
      clear c10
      have H' := aM H
      clear H
      go_wp2
      go_meet
      case rel => exact ⟨_, (true), rS, H', ⟨by first | omega | exact Nat.le_refl _⟩, ⟨(bX BKz1.out)⟩, ⟨(hX HB.out)⟩⟩
    rw [if_neg c10] at H
    have c10b0 := decide_eq_false c10
    have c10b1 : decide (40 < l0_4.length) = false := decide_eq_false (by omega)
    clear c10
    replace H := bE H; obtain ⟨t104, A14, H⟩ := H
    have H' := aM H
    clear H
    go_wp2_with (first | (go_at_call 103; (with_reducible refine (impl_RowsOk.calls _ _ _ _ _ _ _ (cC HR0_6.out HB.out) HC0_6.out A14.out).mono ?_); rintro e wy2 ⟨rfl, hb⟩; replace BKz1 := aB BKz1 hb; replace HB := aS HB hb; clear hb))
    go_meet
    case rel => exact ⟨_, (!t104), rS, H', ⟨by first | omega | exact Nat.le_refl _⟩, ⟨(bX BKz1.out)⟩, ⟨(hX HB.out)⟩⟩
  case rest =>
    clear HC2
    try clear p2
    try clear hczz1 hczz2 hczz3 hczz4 hczz5 hczz6 hczz7 hczz8 hfzz1 hfzz2 hfzz3 hfzz4 hfzz5 hfzz6 hfzz7 hfzz8
    obtain ⟨kq, x41_1, rfl, HA, HJy1, BKz1, HB⟩ := hcut
    cases kq with
    | zero => exact absurd HA.out (by simp [impl_MachineOk.j0])
    | succ kj1 =>
      have H := HA.out
      clear HA
      simp only [impl_MachineOk.j0] at H
      by_cases c27 : x41_1 = true
      · subst c27
        rw [if_pos rfl] at H
        obtain rfl := sI H
        go_wp2
        go_ret
        exact ⟨rE, (hX HB.out)⟩
      replace c27 := Bool.eq_false_iff.mpr c27
      subst c27
      rw [if_neg nft] at H
      have H' := aM H
      clear H
      obtain ⟨hczx1, hczx2, hczx3, hczx4, hczx5, hczx6, hczx7, hczx8, hfzx1, hfzx2, hfzx3, hfzx4, hfzx5, hfzx6, hfzx7, hfzx8⟩ := cZ8 BKz1.out
      go_wp2
      go_loopg [46] kj1 (fun kq v46 w' => ∃ (x46_2 : Int), v46 = .int .i64 x46_2 ∧ Aside0 (impl_MachineOk.l0 kq (l0_2.length : Int) l0_4 (l0_4.length : Int) x46_2 l0_0 l0_1 l0_2 a0_3 l0_4 l0_5 l0_6 a0_7 = some r) ∧ Aside0 (kq ≤ kj1) ∧ Aside0 (w'.heap[gbz1]? = some (.cells #[(.slice A0_0 l0_0.length c0_0), (.slice A0_1 l0_1.length c0_1), (.slice A0_2 l0_2.length c0_2), .int .i64 a0_3, (.slice A0_4 l0_4.length c0_4), (.slice A0_5 l0_5.length c0_5), (.slice A0_6 l0_6.length c0_6), .int .i64 a0_7] 43 (0, 0))) ∧ Aside0 (Below w.heap.size w w'))
      case atStart => exact ⟨(0), rS, H', ⟨Nat.le_refl _⟩, ⟨(bX BKz1.out)⟩, ⟨(hX HB.out)⟩⟩
      case round =>
        clear H'
        try clear p2
        try clear c27
        try clear hczx1 hczx2 hczx3 hczx4 hczx5 hczx6 hczx7 hczx8 hfzx1 hfzx2 hfzx3 hfzx4 hfzx5 hfzx6 hfzx7 hfzx8
        try clear hczz1 hczz2 hczz3 hczz4 hczz5 hczz6 hczz7 hczz8 hfzz1 hfzz2 hfzz3 hfzz4 hfzz5 hfzz6 hfzz7 hfzz8
        obtain ⟨x46_2, rfl, HA, HKw1, BKz1, HB⟩ := hrel
        cases gk with
        | zero => exact absurd HA.out (by simp [impl_MachineOk.l0])
        | succ k2 =>
          have H := HA.out
          clear HA
          simp only [impl_MachineOk.l0] at H
          by_cases c29 : x46_2 < (l0_4.length : Int)
          case neg =>
            rw [if_neg c29] at H
            have c29b0 := decide_eq_false c29
            clear c29
            have H' := aM H
            clear H
            obtain ⟨hczv1, hczv2, hczv3, hczv4, hczv5, hczv6, hczv7, hczv8, hfzv1, hfzv2, hfzv3, hfzv4, hfzv5, hfzv6, hfzv7, hfzv8⟩ := cZ8 BKz1.out
            go_wp2
            go_loopg [90] k2 (fun kq v90 w' => ∃ (x90_3 : Int), v90 = .int .i64 x90_3 ∧ Aside0 (impl_MachineOk.l1 kq (l0_2.length : Int) l0_2 (l0_2.length : Int) x90_3 l0_0 l0_1 l0_2 a0_3 l0_4 l0_5 l0_6 a0_7 = some r) ∧ Aside0 (kq ≤ k2) ∧ Aside0 (w'.heap[gbz1]? = some (.cells #[(.slice A0_0 l0_0.length c0_0), (.slice A0_1 l0_1.length c0_1), (.slice A0_2 l0_2.length c0_2), .int .i64 a0_3, (.slice A0_4 l0_4.length c0_4), (.slice A0_5 l0_5.length c0_5), (.slice A0_6 l0_6.length c0_6), .int .i64 a0_7] 43 (0, 0))) ∧ Aside0 (Below w.heap.size w w'))
            case atStart => exact ⟨(0), rS, H', ⟨Nat.le_refl _⟩, ⟨(bX BKz1.out)⟩, ⟨(hX HB.out)⟩⟩
            case round =>
              clear H'
              try clear p1
              try clear q1
              try clear hx1
              try clear p2
              try clear p6
              try clear p10
              try clear q10
              try clear hx10
              try clear c27
              try clear c29
              try clear c29b0
              try clear p64
              try clear hczx1 hczx2 hczx3 hczx4 hczx5 hczx6 hczx7 hczx8 hfzx1 hfzx2 hfzx3 hfzx4 hfzx5 hfzx6 hfzx7 hfzx8
              try clear hczz1 hczz2 hczz3 hczz4 hczz5 hczz6 hczz7 hczz8 hfzz1 hfzz2 hfzz3 hfzz4 hfzz5 hfzz6 hfzz7 hfzz8
              try clear hczv1 hczv2 hczv3 hczv4 hczv5 hczv6 hczv7 hczv8 hfzv1 hfzv2 hfzv3 hfzv4 hfzv5 hfzv6 hfzv7 hfzv8
              try clear hx105_0
              try clear hx105_1
              try clear hx105_2
              try clear hx105_3
              try clear hx105_4
              try clear hx105_5
              try clear hx105_6
              try clear hx105_7
              try clear hx105_8
              try clear p105
              try clear q105
              obtain ⟨x90_3, rfl, HA, HKu1, BKz1, HB⟩ := hrel
              cases gk with
              | zero => exact absurd HA.out (by simp [impl_MachineOk.l1])
              | succ k3 =>
                have H := HA.out
                clear HA
                simp only [impl_MachineOk.l1] at H
                by_cases c81 : x90_3 < (l0_2.length : Int)
                case neg =>
                  rw [if_neg c81] at H
                  have c81b0 := decide_eq_false c81
                  clear c81
                  replace H := bE H; obtain ⟨t112, A104, H⟩ := H
                  obtain rfl := sI H
                  obtain ⟨hczt1, hczt2, hczt3, hczt4, hczt5, hczt6, hczt7, hczt8, hfzt1, hfzt2, hfzt3, hfzt4, hfzt5, hfzt6, hfzt7, hfzt8⟩ := cZ8 BKz1.out
                  go_wp2_with (first | (refine goesM 108 107 Tryz.func108 #[.agg #[.slice A0_0 l0_0.length c0_0, .slice A0_1 l0_1.length c0_1, .slice A0_2 l0_2.length c0_2, .int .i64 a0_3, .slice A0_4 l0_4.length c0_4, .slice A0_5 l0_5.length c0_5, .slice A0_6 l0_6.length c0_6, .int .i64 a0_7]] ?_; refine (impl_orderOk.calls _ _ _ _ _ _ _ _ _ _ _ _ _ _ _ _ _ _ _ _ _ _ _ (cC HR0_0.out HB.out) HC0_0.out (cC HR0_1.out HB.out) HC0_1.out (cC HR0_2.out HB.out) HC0_2.out (cC HR0_4.out HB.out) HC0_4.out (cC HR0_5.out HB.out) HC0_5.out (cC HR0_6.out HB.out) HC0_6.out A104.out).mono ?_; rintro e wt1 ⟨rfl, hb⟩; refine ⟨_, rfl, ?_⟩; replace BKz1 := aB BKz1 hb; replace HB := aS HB hb; clear hb))
                  go_ret
                  exact ⟨rE, (hX HB.out)⟩
                rw [if_pos c81] at H
                have c81b0 := decide_eq_true c81
                clear c81
                replace H := ifP H; obtain ⟨c82, H⟩ := H
                have c82b0 := decide_eq_true c82
                clear c82
                replace H := ifP H; obtain ⟨c83, H⟩ := H
                have c83b0 := decide_eq_true c83
                clear c83
                replace H := bE H; obtain ⟨t115, A84, H⟩ := H
                have pt1 : 0 ≤ (x90_3 : Int) := odA
                have qt1 : x90_3 < (l0_2.length : Int) := odA
                obtain ⟨adt1, At1, ct1, At2, ct2, At3, ct3, et1, hxt1, hxt2, hxt3, hxt4, hxt5, hlt1, hit1, hlt2, hit2, hlt3, hit3⟩ := at_T97b HR0_2.out HB.out x90_3 pt1 qt1
                cases et1
                have HRt1 := aM hit1
                have HCt1 := aM hlt1
                clear hit1 hlt1
                have HRt2 := aM hit2
                have HCt2 := aM hlt2
                clear hit2 hlt2
                have HRt3 := aM hit3
                have HCt3 := aM hlt3
                clear hit3 hlt3
                replace pt1 := eq_true pt1
                replace qt1 := eq_true qt1
                go_wp2_with (first | ((with_reducible refine gate_dst (N := 8) rfl ?_); (try (refine gate_guard (by rfl) ?_; dsimp only)); refine boxF 8 #[.slice none 0 0, .int .i64 0, .bool false, .slice none 0 0, .slice none 0 0] 97 ?_; intro gbt1 hg wt1 hbox hb; have BKt1 := aM (hbox); have GWt1 := aG hg HB; have GEt1 := aG hg HB; have NBt1 := aL hg BKz1; have NBt2 := aR hg BKz1; replace BKz1 := aB BKz1 hb; replace HB := aS HB hb; clear hb hbox hg; have hnbt1 := NBt2.out; have hnct1 := NBt1.out; obtain ⟨hczt1, hczt2, hczt3, hczt4, hczt5, hfzt1, hfzt2, hfzt3, hfzt4, hfzt5⟩ := cZ5 BKt1.out; refine Stop.out ?_))
                refine ⟨?_⟩
                by_cases c85 : t115 = true
                case neg =>
                  replace c85 := Bool.eq_false_iff.mpr c85
                  subst c85
                  rw [if_neg nft] at H
                  obtain rfl := sI H
                  go_wp2_with (first | (refine goesM 106 97 Tryz.func106 #[.agg #[.slice At1 ((rd_T97 l0_2 x90_3).f0).length ct1, .int .i64 ((rd_T97 l0_2 x90_3).f1), .bool ((rd_T97 l0_2 x90_3).f2), .slice At2 ((rd_T97 l0_2 x90_3).f3).length ct2, .slice At3 ((rd_T97 l0_2 x90_3).f4).length ct3], .int .i64 (l0_2.length : Int)] ?_; refine (impl_ThreadOk.calls k3 _ _ ((rd_T97 l0_2 x90_3).f0) ((rd_T97 l0_2 x90_3).f1) ((rd_T97 l0_2 x90_3).f2) _ _ ((rd_T97 l0_2 x90_3).f3) _ _ ((rd_T97 l0_2 x90_3).f4) (l0_2.length : Int) false _ (by exact Kd.C_below HRt1.out (hX HB.out)) HCt1.out (by exact Kd.C_below HRt2.out (hX HB.out)) HCt2.out (by exact Kd.C_below HRt3.out (hX HB.out)) HCt3.out A84.out).mono ?_; rintro e wt2 ⟨rfl, hb⟩; refine ⟨_, rfl, ?_⟩; replace BKz1 := aF BKz1 hb; replace BKt1 := aM (blk_below (g := gbt1) (o := .cells #[.slice At1 ((rd_T97 l0_2 x90_3).f0).length ct1, .int .i64 ((rd_T97 l0_2 x90_3).f1), .bool ((rd_T97 l0_2 x90_3).f2), .slice At2 ((rd_T97 l0_2 x90_3).f3).length ct2, .slice At3 ((rd_T97 l0_2 x90_3).f4).length ct3] 97 (0, 0)) (bP BKt1.out) hb); replace HB := aS HB hb; clear hb))
                  go_ret
                  exact ⟨rE, (hX HB.out)⟩
                subst c85
                rw [if_pos rfl] at H
                replace H := bE H; obtain ⟨t116, A86, H⟩ := H
                go_wp2_with (first | (refine goesM 106 97 Tryz.func106 #[.agg #[.slice At1 ((rd_T97 l0_2 x90_3).f0).length ct1, .int .i64 ((rd_T97 l0_2 x90_3).f1), .bool ((rd_T97 l0_2 x90_3).f2), .slice At2 ((rd_T97 l0_2 x90_3).f3).length ct2, .slice At3 ((rd_T97 l0_2 x90_3).f4).length ct3], .int .i64 (l0_2.length : Int)] ?_; refine (impl_ThreadOk.calls k3 _ _ ((rd_T97 l0_2 x90_3).f0) ((rd_T97 l0_2 x90_3).f1) ((rd_T97 l0_2 x90_3).f2) _ _ ((rd_T97 l0_2 x90_3).f3) _ _ ((rd_T97 l0_2 x90_3).f4) (l0_2.length : Int) true _ (by exact Kd.C_below HRt1.out (hX HB.out)) HCt1.out (by exact Kd.C_below HRt2.out (hX HB.out)) HCt2.out (by exact Kd.C_below HRt3.out (hX HB.out)) HCt3.out A84.out).mono ?_; rintro e wt2 ⟨rfl, hb⟩; refine ⟨_, rfl, ?_⟩; replace BKz1 := aF BKz1 hb; replace BKt1 := aM (blk_below (g := gbt1) (o := .cells #[.slice At1 ((rd_T97 l0_2 x90_3).f0).length ct1, .int .i64 ((rd_T97 l0_2 x90_3).f1), .bool ((rd_T97 l0_2 x90_3).f2), .slice At2 ((rd_T97 l0_2 x90_3).f3).length ct2, .slice At3 ((rd_T97 l0_2 x90_3).f4).length ct3] 97 (0, 0)) (bP BKt1.out) hb); replace HB := aS HB hb; clear hb; obtain ⟨hczt6, hczt7, hczt8, hczt9, hczt10, hczt11, hczt12, hczt13, hfzt6, hfzt7, hfzt8, hfzt9, hfzt10, hfzt11, hfzt12, hfzt13⟩ := cZ8 BKz1.out; refine Stop.out ?_))
                refine ⟨?_⟩
                by_cases c87 : t116 = true
                case neg =>
                  replace c87 := Bool.eq_false_iff.mpr c87
                  subst c87
                  rw [if_neg nft] at H
                  obtain rfl := sI H
                  go_wp2_with (first | (go_at_call 107; (with_reducible refine (impl_callsOk.calls _ _ _ _ _ _ _ _ _ _ _ _ _ _ _ _ _ _ _ _ _ _ _ _ (cC HR0_0.out HB.out) HC0_0.out (cC HR0_1.out HB.out) HC0_1.out (cC HR0_2.out HB.out) HC0_2.out (cC HR0_4.out HB.out) HC0_4.out (cC HR0_5.out HB.out) HC0_5.out (cC HR0_6.out HB.out) HC0_6.out A86.out).mono ?_); rintro e wt3 ⟨rfl, hb⟩; replace BKz1 := aB BKz1 hb; replace BKt1 := aB BKt1 hb; replace HB := aS HB hb; clear hb))
                  go_ret
                  exact ⟨rE, (hX HB.out)⟩
                subst c87
                rw [if_pos rfl] at H
                have H' := aM H
                clear H
                go_wp2_with (first | (go_at_call 107; (with_reducible refine (impl_callsOk.calls _ _ _ _ _ _ _ _ _ _ _ _ _ _ _ _ _ _ _ _ _ _ _ _ (cC HR0_0.out HB.out) HC0_0.out (cC HR0_1.out HB.out) HC0_1.out (cC HR0_2.out HB.out) HC0_2.out (cC HR0_4.out HB.out) HC0_4.out (cC HR0_5.out HB.out) HC0_5.out (cC HR0_6.out HB.out) HC0_6.out A86.out).mono ?_); rintro e wt3 ⟨rfl, hb⟩; replace BKz1 := aB BKz1 hb; replace BKt1 := aB BKt1 hb; replace HB := aS HB hb; clear hb))
                go_roundg k3
                case measure => have := HJy1.out; have := HKw1.out; have := HKu1.out; omega
                case rel => exact ⟨(wrap64 (x90_3 + 1)), rS, H', ⟨by have := HJy1.out; have := HKw1.out; have := HKu1.out; omega⟩, ⟨(bX BKz1.out)⟩, ⟨(hX HB.out)⟩⟩
          rw [if_pos c29] at H
          have c29b0 := decide_eq_true c29
          clear c29
          replace H := ifP H; obtain ⟨c30, H⟩ := H
          have c30b0 := decide_eq_true c30
          clear c30
          replace H := ifP H; obtain ⟨c31, H⟩ := H
          have c31b0 := decide_eq_true c31
          clear c31
          replace H := bE H; obtain ⟨t107, A32, H⟩ := H
          have pv1 : 0 ≤ (x46_2 : Int) := odA
          have qv1 : x46_2 < (l0_4.length : Int) := odA
          obtain ⟨adv1, Av1, cv1, ev1, hxv1, hxv2, hxv3, hxv4, hxv5, hxv6, hxv7, hxv8, hxv9, hlv1, hiv1⟩ := at_T73b HR0_4.out HB.out x46_2 pv1 qv1
          cases ev1
          have HRv1 := aM hiv1
          have HCv1 := aM hlv1
          clear hiv1 hlv1
          replace pv1 := eq_true pv1
          replace qv1 := eq_true qv1
          go_wp2_with (first | ((with_reducible refine gate_dst (N := 6) rfl ?_); (try (refine gate_guard (by rfl) ?_; dsimp only)); refine boxF 6 #[.int .i64 0, .int .i64 0, .int .i64 0, .int .i64 0, .int .i64 0, .int .i64 0, .int .i64 0, .int .i64 0, .slice none 0 0] 73 ?_; intro gbv1 hg wv1 hbox hb; have BKv1 := aM (hbox); have GWv1 := aG hg HB; have GEv1 := aG hg HB; have NBv1 := aL hg BKz1; have NBv2 := aR hg BKz1; replace BKz1 := aB BKz1 hb; replace HB := aS HB hb; clear hb hbox hg; have hnbv1 := NBv2.out; have hncv1 := NBv1.out; obtain ⟨hczv1, hczv2, hczv3, hczv4, hczv5, hczv6, hczv7, hczv8, hczv9, hfzv1, hfzv2, hfzv3, hfzv4, hfzv5, hfzv6, hfzv7, hfzv8, hfzv9⟩ := cZ9 BKv1.out; refine Stop.out ?_))
          refine ⟨?_⟩
          by_cases c33 : t107 = true
          case neg =>
            replace c33 := Bool.eq_false_iff.mpr c33
            subst c33
            rw [if_neg nft] at H
            obtain rfl := sI H
            go_wp2_with (first | (refine goesM 102 54 Tryz.func102 #[.int .i64 ((rd_T73 l0_4 x46_2).f0), .int .i64 0, .int .i64 (wrap64 ((l0_2.length : Int) - 1))] ?_; refine (impl_from.calls _ _ _ _ _ A32.out).mono ?_; rintro e w' ⟨rfl, ⟨nd, rfl⟩⟩; refine ⟨_, rfl, ?_⟩))
            go_ret
            exact ⟨rE, (hX HB.out)⟩
          subst c33
          rw [if_pos rfl] at H
          replace H := bE H; obtain ⟨t108, A34, H⟩ := H
          go_wp2_with (first | (refine goesM 102 54 Tryz.func102 #[.int .i64 ((rd_T73 l0_4 x46_2).f0), .int .i64 0, .int .i64 (wrap64 ((l0_2.length : Int) - 1))] ?_; refine (impl_from.calls _ _ _ _ _ A32.out).mono ?_; rintro e w' ⟨rfl, ⟨nd, rfl⟩⟩; refine ⟨_, rfl, ?_⟩; refine Stop.out ?_))
          refine ⟨?_⟩
          by_cases c35 : t108 = true
          case neg =>
            replace c35 := Bool.eq_false_iff.mpr c35
            subst c35
            rw [if_neg nft] at H
            obtain rfl := sI H
            go_wp2_with (first | (go_at_call 105; (with_reducible refine (impl_OpOk.calls _ _ _ _ _ _ A34.out).mono ?_); rintro e wv2 ⟨rfl, hb⟩; replace BKz1 := aF BKz1 hb; replace BKv1 := aM (blk_below (g := gbv1) (o := .cells #[.int .i64 ((rd_T73 l0_4 x46_2).f0), .int .i64 ((rd_T73 l0_4 x46_2).f1.f0), .int .i64 ((rd_T73 l0_4 x46_2).f1.f1), .int .i64 ((rd_T73 l0_4 x46_2).f1.f2), .int .i64 ((rd_T73 l0_4 x46_2).f2), .int .i64 ((rd_T73 l0_4 x46_2).f3), .int .i64 ((rd_T73 l0_4 x46_2).f4), .int .i64 ((rd_T73 l0_4 x46_2).f5.f0), .slice Av1 ((rd_T73 l0_4 x46_2).f5.f1).length cv1] 73 (0, 0)) (bP BKv1.out) hb); replace HB := aS HB hb; clear hb))
            go_ret
            exact ⟨rE, (hX HB.out)⟩
          subst c35
          rw [if_pos rfl] at H
          replace H := bE H; obtain ⟨t109, A36, H⟩ := H
          go_wp2_with (first | (go_at_call 105; (with_reducible refine (impl_OpOk.calls _ _ _ _ _ _ A34.out).mono ?_); rintro e wv2 ⟨rfl, hb⟩; replace BKz1 := aF BKz1 hb; replace BKv1 := aM (blk_below (g := gbv1) (o := .cells #[.int .i64 ((rd_T73 l0_4 x46_2).f0), .int .i64 ((rd_T73 l0_4 x46_2).f1.f0), .int .i64 ((rd_T73 l0_4 x46_2).f1.f1), .int .i64 ((rd_T73 l0_4 x46_2).f1.f2), .int .i64 ((rd_T73 l0_4 x46_2).f2), .int .i64 ((rd_T73 l0_4 x46_2).f3), .int .i64 ((rd_T73 l0_4 x46_2).f4), .int .i64 ((rd_T73 l0_4 x46_2).f5.f0), .slice Av1 ((rd_T73 l0_4 x46_2).f5.f1).length cv1] 73 (0, 0)) (bP BKv1.out) hb); replace HB := aS HB hb; clear hb; obtain ⟨hczv10, hczv11, hczv12, hczv13, hczv14, hczv15, hczv16, hczv17, hczv18, hfzv10, hfzv11, hfzv12, hfzv13, hfzv14, hfzv15, hfzv16, hfzv17, hfzv18⟩ := cZ9 BKv1.out; obtain ⟨hczv19, hczv20, hczv21, hczv22, hczv23, hczv24, hczv25, hczv26, hfzv19, hfzv20, hfzv21, hfzv22, hfzv23, hfzv24, hfzv25, hfzv26⟩ := cZ8 BKz1.out; refine Stop.out ?_))
          refine ⟨?_⟩
          by_cases c37 : t109 = true
          case neg =>
            replace c37 := Bool.eq_false_iff.mpr c37
            subst c37
            rw [if_neg nft] at H
            obtain rfl := sI H
            go_wp2_with (first | (go_at_call 102; (with_reducible refine (impl_from.calls _ _ _ _ _ A36.out).mono ?_); rintro e w' ⟨rfl, ⟨nd, rfl⟩⟩))
            go_ret
            exact ⟨rE, (hX HB.out)⟩
          subst c37
          rw [if_pos rfl] at H
          replace H := bE H; obtain ⟨t110, A38, H⟩ := H
          go_wp2_with (first | (go_at_call 102; (with_reducible refine (impl_from.calls _ _ _ _ _ A36.out).mono ?_); rintro e w' ⟨rfl, ⟨nd, rfl⟩⟩; refine Stop.out ?_))
          refine ⟨?_⟩
          by_cases c39 : t110 = true
          case neg =>
            replace c39 := Bool.eq_false_iff.mpr c39
            subst c39
            rw [if_neg nft] at H
            obtain rfl := sI H
            go_wp2_with (first | ((with_reducible refine gate_calleeT (t := 71) rfl ?_); (try (refine gate_guard (by rfl) ?_; dsimp only)); refine goesTC_ (some 75) 71 rfl rfl Tryz.func104 (by kernel_rfl) rfl #[.agg #[.int .i64 ((rd_T73 l0_4 x46_2).f0), .int .i64 ((rd_T73 l0_4 x46_2).f1.f0), .int .i64 ((rd_T73 l0_4 x46_2).f1.f1), .int .i64 ((rd_T73 l0_4 x46_2).f1.f2), .int .i64 ((rd_T73 l0_4 x46_2).f2), .int .i64 ((rd_T73 l0_4 x46_2).f3), .int .i64 ((rd_T73 l0_4 x46_2).f4), .int .i64 ((rd_T73 l0_4 x46_2).f5.f0), .slice Av1 ((rd_T73 l0_4 x46_2).f5.f1).length cv1], .int .i64 ((rd_T73 l0_4 x46_2).f3)] #[.pointer (some ⟨gbz1, 0, none⟩)] #[.agg #[.int .i64 ((rd_T73 l0_4 x46_2).f0), .int .i64 ((rd_T73 l0_4 x46_2).f1.f0), .int .i64 ((rd_T73 l0_4 x46_2).f1.f1), .int .i64 ((rd_T73 l0_4 x46_2).f1.f2), .int .i64 ((rd_T73 l0_4 x46_2).f2), .int .i64 ((rd_T73 l0_4 x46_2).f3), .int .i64 ((rd_T73 l0_4 x46_2).f4), .int .i64 ((rd_T73 l0_4 x46_2).f5.f0), .slice Av1 ((rd_T73 l0_4 x46_2).f5.f1).length cv1], .int .i64 ((rd_T73 l0_4 x46_2).f3), .pointer (some ⟨gbz1, 0, none⟩)] rfl rfl (by (try simp only [List.map_toArray, List.map_cons, List.map_nil]); first | done | rfl | (simp only [List.length_drop, List.length_take]; rfl)) rfl ?_; (with_reducible refine (impl_MachineOk_1.calls ((rd_T73 l0_4 x46_2).f0) ((rd_T73 l0_4 x46_2).f1.f0) ((rd_T73 l0_4 x46_2).f1.f1) ((rd_T73 l0_4 x46_2).f1.f2) ((rd_T73 l0_4 x46_2).f2) ((rd_T73 l0_4 x46_2).f3) ((rd_T73 l0_4 x46_2).f4) ((rd_T73 l0_4 x46_2).f5.f0) _ _ ((rd_T73 l0_4 x46_2).f5.f1) ((rd_T73 l0_4 x46_2).f3) gbz1 A0_0 c0_0 l0_0 A0_1 c0_1 l0_1 A0_2 c0_2 l0_2 a0_3 (some adv1) c0_4 l0_4 A0_5 c0_5 l0_5 A0_6 c0_6 l0_6 a0_7 false _ (cC HRv1.out HB.out) HCv1.out (cC HR0_0.out HB.out) HC0_0.out (cC HR0_1.out HB.out) HC0_1.out (cC HR0_2.out HB.out) HC0_2.out (cC HR0_4.out HB.out) HC0_4.out (cC HR0_5.out HB.out) HC0_5.out (cC HR0_6.out HB.out) HC0_6.out (by exact (bX BKz1.out)) A38.out).mono ?_); rintro e wv3 ⟨rfl, hb⟩; refine ⟨_, rfl, ?_⟩; replace BKz1 := aB BKz1 hb; replace BKv1 := aB BKv1 hb; replace HB := aS HB hb; clear hb))
            go_ret
            exact ⟨rE, (hX HB.out)⟩
          subst c39
          rw [if_pos rfl] at H
          replace H := bE H; obtain ⟨t111, A40, H⟩ := H
          go_wp2_with (first | ((with_reducible refine gate_calleeT (t := 71) rfl ?_); (try (refine gate_guard (by rfl) ?_; dsimp only)); refine goesTC_ (some 75) 71 rfl rfl Tryz.func104 (by kernel_rfl) rfl #[.agg #[.int .i64 ((rd_T73 l0_4 x46_2).f0), .int .i64 ((rd_T73 l0_4 x46_2).f1.f0), .int .i64 ((rd_T73 l0_4 x46_2).f1.f1), .int .i64 ((rd_T73 l0_4 x46_2).f1.f2), .int .i64 ((rd_T73 l0_4 x46_2).f2), .int .i64 ((rd_T73 l0_4 x46_2).f3), .int .i64 ((rd_T73 l0_4 x46_2).f4), .int .i64 ((rd_T73 l0_4 x46_2).f5.f0), .slice Av1 ((rd_T73 l0_4 x46_2).f5.f1).length cv1], .int .i64 ((rd_T73 l0_4 x46_2).f3)] #[.pointer (some ⟨gbz1, 0, none⟩)] #[.agg #[.int .i64 ((rd_T73 l0_4 x46_2).f0), .int .i64 ((rd_T73 l0_4 x46_2).f1.f0), .int .i64 ((rd_T73 l0_4 x46_2).f1.f1), .int .i64 ((rd_T73 l0_4 x46_2).f1.f2), .int .i64 ((rd_T73 l0_4 x46_2).f2), .int .i64 ((rd_T73 l0_4 x46_2).f3), .int .i64 ((rd_T73 l0_4 x46_2).f4), .int .i64 ((rd_T73 l0_4 x46_2).f5.f0), .slice Av1 ((rd_T73 l0_4 x46_2).f5.f1).length cv1], .int .i64 ((rd_T73 l0_4 x46_2).f3), .pointer (some ⟨gbz1, 0, none⟩)] rfl rfl (by (try simp only [List.map_toArray, List.map_cons, List.map_nil]); first | done | rfl | (simp only [List.length_drop, List.length_take]; rfl)) rfl ?_; (with_reducible refine (impl_MachineOk_1.calls ((rd_T73 l0_4 x46_2).f0) ((rd_T73 l0_4 x46_2).f1.f0) ((rd_T73 l0_4 x46_2).f1.f1) ((rd_T73 l0_4 x46_2).f1.f2) ((rd_T73 l0_4 x46_2).f2) ((rd_T73 l0_4 x46_2).f3) ((rd_T73 l0_4 x46_2).f4) ((rd_T73 l0_4 x46_2).f5.f0) _ _ ((rd_T73 l0_4 x46_2).f5.f1) ((rd_T73 l0_4 x46_2).f3) gbz1 A0_0 c0_0 l0_0 A0_1 c0_1 l0_1 A0_2 c0_2 l0_2 a0_3 (some adv1) c0_4 l0_4 A0_5 c0_5 l0_5 A0_6 c0_6 l0_6 a0_7 true _ (cC HRv1.out HB.out) HCv1.out (cC HR0_0.out HB.out) HC0_0.out (cC HR0_1.out HB.out) HC0_1.out (cC HR0_2.out HB.out) HC0_2.out (cC HR0_4.out HB.out) HC0_4.out (cC HR0_5.out HB.out) HC0_5.out (cC HR0_6.out HB.out) HC0_6.out (by exact (bX BKz1.out)) A38.out).mono ?_); rintro e wv3 ⟨rfl, hb⟩; refine ⟨_, rfl, ?_⟩; replace BKz1 := aB BKz1 hb; replace BKv1 := aB BKv1 hb; replace HB := aS HB hb; clear hb; obtain ⟨hczv27, hczv28, hczv29, hczv30, hczv31, hczv32, hczv33, hczv34, hczv35, hfzv27, hfzv28, hfzv29, hfzv30, hfzv31, hfzv32, hfzv33, hfzv34, hfzv35⟩ := cZ9 BKv1.out; refine Stop.out ?_))
          refine ⟨?_⟩
          by_cases c41 : t111 = true
          case neg =>
            replace c41 := Bool.eq_false_iff.mpr c41
            subst c41
            rw [if_neg nft] at H
            obtain rfl := sI H
            go_wp2_with (first | ((with_reducible refine gate_calleeT (t := 79) rfl ?_); (try (refine gate_guard (by rfl) ?_; dsimp only)); refine goesTC_ (some 83) 79 rfl rfl Tryz.func104 (by kernel_rfl) rfl #[.agg #[.int .i64 ((rd_T73 l0_4 x46_2).f0), .int .i64 ((rd_T73 l0_4 x46_2).f1.f0), .int .i64 ((rd_T73 l0_4 x46_2).f1.f1), .int .i64 ((rd_T73 l0_4 x46_2).f1.f2), .int .i64 ((rd_T73 l0_4 x46_2).f2), .int .i64 ((rd_T73 l0_4 x46_2).f3), .int .i64 ((rd_T73 l0_4 x46_2).f4), .int .i64 ((rd_T73 l0_4 x46_2).f5.f0), .slice Av1 ((rd_T73 l0_4 x46_2).f5.f1).length cv1], .int .i64 ((rd_T73 l0_4 x46_2).f4)] #[.pointer (some ⟨gbz1, 0, none⟩)] #[.agg #[.int .i64 ((rd_T73 l0_4 x46_2).f0), .int .i64 ((rd_T73 l0_4 x46_2).f1.f0), .int .i64 ((rd_T73 l0_4 x46_2).f1.f1), .int .i64 ((rd_T73 l0_4 x46_2).f1.f2), .int .i64 ((rd_T73 l0_4 x46_2).f2), .int .i64 ((rd_T73 l0_4 x46_2).f3), .int .i64 ((rd_T73 l0_4 x46_2).f4), .int .i64 ((rd_T73 l0_4 x46_2).f5.f0), .slice Av1 ((rd_T73 l0_4 x46_2).f5.f1).length cv1], .int .i64 ((rd_T73 l0_4 x46_2).f4), .pointer (some ⟨gbz1, 0, none⟩)] rfl rfl (by (try simp only [List.map_toArray, List.map_cons, List.map_nil]); first | done | rfl | (simp only [List.length_drop, List.length_take]; rfl)) rfl ?_; (with_reducible refine (impl_MachineOk_1.calls ((rd_T73 l0_4 x46_2).f0) ((rd_T73 l0_4 x46_2).f1.f0) ((rd_T73 l0_4 x46_2).f1.f1) ((rd_T73 l0_4 x46_2).f1.f2) ((rd_T73 l0_4 x46_2).f2) ((rd_T73 l0_4 x46_2).f3) ((rd_T73 l0_4 x46_2).f4) ((rd_T73 l0_4 x46_2).f5.f0) _ _ ((rd_T73 l0_4 x46_2).f5.f1) ((rd_T73 l0_4 x46_2).f4) gbz1 A0_0 c0_0 l0_0 A0_1 c0_1 l0_1 A0_2 c0_2 l0_2 a0_3 (some adv1) c0_4 l0_4 A0_5 c0_5 l0_5 A0_6 c0_6 l0_6 a0_7 false _ (cC HRv1.out HB.out) HCv1.out (cC HR0_0.out HB.out) HC0_0.out (cC HR0_1.out HB.out) HC0_1.out (cC HR0_2.out HB.out) HC0_2.out (cC HR0_4.out HB.out) HC0_4.out (cC HR0_5.out HB.out) HC0_5.out (cC HR0_6.out HB.out) HC0_6.out (by exact (bX BKz1.out)) A40.out).mono ?_); rintro e wv4 ⟨rfl, hb⟩; refine ⟨_, rfl, ?_⟩; replace BKz1 := aB BKz1 hb; replace BKv1 := aB BKv1 hb; replace HB := aS HB hb; clear hb))
            go_ret
            exact ⟨rE, (hX HB.out)⟩
          subst c41
          rw [if_pos rfl] at H
          have H' := aM H
          clear H
          go_wp2_with (first | ((with_reducible refine gate_calleeT (t := 79) rfl ?_); (try (refine gate_guard (by rfl) ?_; dsimp only)); refine goesTC_ (some 83) 79 rfl rfl Tryz.func104 (by kernel_rfl) rfl #[.agg #[.int .i64 ((rd_T73 l0_4 x46_2).f0), .int .i64 ((rd_T73 l0_4 x46_2).f1.f0), .int .i64 ((rd_T73 l0_4 x46_2).f1.f1), .int .i64 ((rd_T73 l0_4 x46_2).f1.f2), .int .i64 ((rd_T73 l0_4 x46_2).f2), .int .i64 ((rd_T73 l0_4 x46_2).f3), .int .i64 ((rd_T73 l0_4 x46_2).f4), .int .i64 ((rd_T73 l0_4 x46_2).f5.f0), .slice Av1 ((rd_T73 l0_4 x46_2).f5.f1).length cv1], .int .i64 ((rd_T73 l0_4 x46_2).f4)] #[.pointer (some ⟨gbz1, 0, none⟩)] #[.agg #[.int .i64 ((rd_T73 l0_4 x46_2).f0), .int .i64 ((rd_T73 l0_4 x46_2).f1.f0), .int .i64 ((rd_T73 l0_4 x46_2).f1.f1), .int .i64 ((rd_T73 l0_4 x46_2).f1.f2), .int .i64 ((rd_T73 l0_4 x46_2).f2), .int .i64 ((rd_T73 l0_4 x46_2).f3), .int .i64 ((rd_T73 l0_4 x46_2).f4), .int .i64 ((rd_T73 l0_4 x46_2).f5.f0), .slice Av1 ((rd_T73 l0_4 x46_2).f5.f1).length cv1], .int .i64 ((rd_T73 l0_4 x46_2).f4), .pointer (some ⟨gbz1, 0, none⟩)] rfl rfl (by (try simp only [List.map_toArray, List.map_cons, List.map_nil]); first | done | rfl | (simp only [List.length_drop, List.length_take]; rfl)) rfl ?_; (with_reducible refine (impl_MachineOk_1.calls ((rd_T73 l0_4 x46_2).f0) ((rd_T73 l0_4 x46_2).f1.f0) ((rd_T73 l0_4 x46_2).f1.f1) ((rd_T73 l0_4 x46_2).f1.f2) ((rd_T73 l0_4 x46_2).f2) ((rd_T73 l0_4 x46_2).f3) ((rd_T73 l0_4 x46_2).f4) ((rd_T73 l0_4 x46_2).f5.f0) _ _ ((rd_T73 l0_4 x46_2).f5.f1) ((rd_T73 l0_4 x46_2).f4) gbz1 A0_0 c0_0 l0_0 A0_1 c0_1 l0_1 A0_2 c0_2 l0_2 a0_3 (some adv1) c0_4 l0_4 A0_5 c0_5 l0_5 A0_6 c0_6 l0_6 a0_7 true _ (cC HRv1.out HB.out) HCv1.out (cC HR0_0.out HB.out) HC0_0.out (cC HR0_1.out HB.out) HC0_1.out (cC HR0_2.out HB.out) HC0_2.out (cC HR0_4.out HB.out) HC0_4.out (cC HR0_5.out HB.out) HC0_5.out (cC HR0_6.out HB.out) HC0_6.out (by exact (bX BKz1.out)) A40.out).mono ?_); rintro e wv4 ⟨rfl, hb⟩; refine ⟨_, rfl, ?_⟩; replace BKz1 := aB BKz1 hb; replace BKv1 := aB BKv1 hb; replace HB := aS HB hb; clear hb))
          go_roundg k2
          case measure => have := HJy1.out; have := HKw1.out; omega
          case rel => exact ⟨(wrap64 (x46_2 + 1)), rS, H', ⟨by have := HJy1.out; have := HKw1.out; omega⟩, ⟨(bX BKz1.out)⟩, ⟨(hX HB.out)⟩⟩
def impl_Ahead.f (a0_0 : Int) (a0_1 : Int) (a0_2 : Int) (a0_3 : Int) (a0_4 : Int) (a0_5 : Int) (a0_6 : Int) (a0_7 : Int) (l0_8 : List Int) (a1_0 : Int) (a1_1 : Int) (a1_2 : Int) (a1_3 : Int) (a1_4 : Int) (a1_5 : Int) (a1_6 : Int) (a1_7 : Int) (l1_8 : List Int) : Option (Bool) := if a0_6 ≥ 0 then (some (decide (a0_6 < a1_4))) else (some false)
set_option maxHeartbeats 8000000 in
set_option maxRecDepth 100000 in
theorem impl_Ahead.calls (a0_0 : Int) (a0_1 : Int) (a0_2 : Int) (a0_3 : Int) (a0_4 : Int) (a0_5 : Int) (a0_6 : Int) (a0_7 : Int) (A0_8 : Option Addr) (c0_8 : Nat) (l0_8 : List Int) (a1_0 : Int) (a1_1 : Int) (a1_2 : Int) (a1_3 : Int) (a1_4 : Int) (a1_5 : Int) (a1_6 : Int) (a1_7 : Int) (A1_8 : Option Addr) (c1_8 : Nat) (l1_8 : List Int) (r : Bool) (w : World) (hr0_8 : Kd.C (Kd.int .i64) w A0_8 l0_8.length l0_8) (hc0_8 : l0_8.length ≤ c0_8) (hr1_8 : Kd.C (Kd.int .i64) w A1_8 l1_8.length l1_8) (hc1_8 : l1_8.length ≤ c1_8) (h : impl_Ahead.f a0_0 a0_1 a0_2 a0_3 a0_4 a0_5 a0_6 a0_7 l0_8 a1_0 a1_1 a1_2 a1_3 a1_4 a1_5 a1_6 a1_7 l1_8 = some r) :
    Calls Tryz.prog 49 #[.agg #[.int .i64 a0_0, .int .i64 a0_1, .int .i64 a0_2, .int .i64 a0_3, .int .i64 a0_4, .int .i64 a0_5, .int .i64 a0_6, .int .i64 a0_7, .slice A0_8 l0_8.length c0_8], .agg #[.int .i64 a1_0, .int .i64 a1_1, .int .i64 a1_2, .int .i64 a1_3, .int .i64 a1_4, .int .i64 a1_5, .int .i64 a1_6, .int .i64 a1_7, .slice A1_8 l1_8.length c1_8]] w fun e w' => e = .returned (.bool r) ∧ Below w.heap.size w w' := by
  have hu73 := Tryz.underlying73
  have HR0_8 := aM hr0_8
  have HC0_8 := aM hc0_8
  clear hr0_8 hc0_8
  have HR1_8 := aM hr1_8
  have HC1_8 := aM hc1_8
  clear hr1_8 hc1_8
  have HB := aM (Below.refl w.heap.size w)
  have H := h
  unfold impl_Ahead.f at H
  clear h
  go_enter Tryz.func49, Tryz.ntmps49
  go_wp2_with (first | (refine boxE 2 #[.int .i64 a0_0, .int .i64 a0_1, .int .i64 a0_2, .int .i64 a0_3, .int .i64 a0_4, .int .i64 a0_5, .int .i64 a0_6, .int .i64 a0_7, .slice A0_8 l0_8.length c0_8] 73 ?_; intro gbz1 hg wz1 hbox hb; have BKz1 := aM (hbox); have GWz1 := aG hg HB; have GEz1 := aG hg HB; replace HB := aS HB hb; clear hb hbox hg; refine Stop.out ?_))
  refine ⟨?_⟩
  by_cases c3 : a0_6 ≥ 0
  case neg =>
    rw [if_neg c3] at H
    have c3b0 := decide_eq_false c3
    clear c3
    obtain rfl := sI H
    go_wp2_with (first | (refine boxE 3 #[.int .i64 a1_0, .int .i64 a1_1, .int .i64 a1_2, .int .i64 a1_3, .int .i64 a1_4, .int .i64 a1_5, .int .i64 a1_6, .int .i64 a1_7, .slice A1_8 l1_8.length c1_8] 73 ?_; intro gbz2 hg wz2 hbox hb; have BKz2 := aM (hbox); have GWz2 := aG hg HB; have GEz2 := aG hg HB; have NBz1 := aL hg BKz1; have NBz2 := aR hg BKz1; replace BKz1 := aB BKz1 hb; replace HB := aS HB hb; clear hb hbox hg; have hnbz1 := NBz1.out; have hncz1 := NBz2.out; obtain ⟨hczz1, hczz2, hczz3, hczz4, hczz5, hczz6, hczz7, hczz8, hczz9, hfzz1, hfzz2, hfzz3, hfzz4, hfzz5, hfzz6, hfzz7, hfzz8, hfzz9⟩ := cZ9 BKz1.out))
    go_ret
    exact ⟨rE, (hX HB.out)⟩
  rw [if_pos c3] at H
  have c3b0 := decide_eq_true c3
  clear c3
  obtain rfl := sI H
  go_wp2_with (first | (refine boxE 3 #[.int .i64 a1_0, .int .i64 a1_1, .int .i64 a1_2, .int .i64 a1_3, .int .i64 a1_4, .int .i64 a1_5, .int .i64 a1_6, .int .i64 a1_7, .slice A1_8 l1_8.length c1_8] 73 ?_; intro gbz2 hg wz2 hbox hb; have BKz2 := aM (hbox); have GWz2 := aG hg HB; have GEz2 := aG hg HB; have NBz1 := aL hg BKz1; have NBz2 := aR hg BKz1; replace BKz1 := aB BKz1 hb; replace HB := aS HB hb; clear hb hbox hg; have hnbz1 := NBz1.out; have hncz1 := NBz2.out; obtain ⟨hczz1, hczz2, hczz3, hczz4, hczz5, hczz6, hczz7, hczz8, hczz9, hfzz1, hfzz2, hfzz3, hfzz4, hfzz5, hfzz6, hfzz7, hfzz8, hfzz9⟩ := cZ9 BKz1.out; obtain ⟨hczz10, hczz11, hczz12, hczz13, hczz14, hczz15, hczz16, hczz17, hczz18, hfzz10, hfzz11, hfzz12, hfzz13, hfzz14, hfzz15, hfzz16, hfzz17, hfzz18⟩ := cZ9 BKz2.out))
  go_ret
  exact ⟨rE, (hX HB.out)⟩
mutual
def impl_JudgeTimes.l0 : Nat → List (S73) → Int → Int → List (S140) → List (S162) → List (S97) → Int → List (S73) → List Int → List Int → Int → Option (Bool)
  | 0, _, _, _, _, _, _, _, _, _, _, _ => none
  | k + 1, x11, x12, x13, x102000, x102001, x102002, x102003, x102004, x102005, x102006, x102007 => if x13 < x12 then (if 0 ≤ x13 then (if x13 < (x11.length : Int) then (if ((rd_T73 x11 x13).f4) ≥ 0 then (if ((rd_T73 x11 x13).f3) < 0 then (impl_JudgeTimes.j1 k x13 x11 x12 x13 true x102000 x102001 x102002 x102003 x102004 x102005 x102006 x102007 ((rd_T73 x11 x13).f0) ((rd_T73 x11 x13).f1.f0) ((rd_T73 x11 x13).f1.f1) ((rd_T73 x11 x13).f1.f2) ((rd_T73 x11 x13).f2) ((rd_T73 x11 x13).f3) ((rd_T73 x11 x13).f4) ((rd_T73 x11 x13).f5.f0) ((rd_T73 x11 x13).f5.f1)) else (impl_JudgeTimes.j1 k x13 x11 x12 x13 (decide (((rd_T73 x11 x13).f3) > ((rd_T73 x11 x13).f4))) x102000 x102001 x102002 x102003 x102004 x102005 x102006 x102007 ((rd_T73 x11 x13).f0) ((rd_T73 x11 x13).f1.f0) ((rd_T73 x11 x13).f1.f1) ((rd_T73 x11 x13).f1.f2) ((rd_T73 x11 x13).f2) ((rd_T73 x11 x13).f3) ((rd_T73 x11 x13).f4) ((rd_T73 x11 x13).f5.f0) ((rd_T73 x11 x13).f5.f1))) else (impl_JudgeTimes.j1 k x13 x11 x12 x13 false x102000 x102001 x102002 x102003 x102004 x102005 x102006 x102007 ((rd_T73 x11 x13).f0) ((rd_T73 x11 x13).f1.f0) ((rd_T73 x11 x13).f1.f1) ((rd_T73 x11 x13).f1.f2) ((rd_T73 x11 x13).f2) ((rd_T73 x11 x13).f3) ((rd_T73 x11 x13).f4) ((rd_T73 x11 x13).f5.f0) ((rd_T73 x11 x13).f5.f1))) else (none)) else (none)) else (some true)
def impl_JudgeTimes.j1 : Nat → Int → List (S73) → Int → Int → Bool → List (S140) → List (S162) → List (S97) → Int → List (S73) → List Int → List Int → Int → Int → Int → Int → Int → Int → Int → Int → Int → List Int → Option (Bool)
  | 0, _, _, _, _, _, _, _, _, _, _, _, _, _, _, _, _, _, _, _, _, _, _ => none
  | k + 1, x3, x11, x12, x13, x32, x102000, x102001, x102002, x102003, x102004, x102005, x102006, x102007, x105000, x105001, x105002, x105003, x105004, x105005, x105006, x105007, x105008 => if x32 = true then (some false) else (if 0 ≤ x3 then (if x3 ≤ (x102004.length : Int) then ((some (x102004.take (x3 : Int).toNat : List (S73))).bind fun y105 => (impl_JudgeTimes.l1 k x11 x12 x13 y105 (y105.length : Int) 0 x102000 x102001 x102002 x102003 x102004 x102005 x102006 x102007 x105000 x105001 x105002 x105003 x105004 x105005 x105006 x105007 x105008)) else (none)) else (none))
def impl_JudgeTimes.l1 : Nat → List (S73) → Int → Int → List (S73) → Int → Int → List (S140) → List (S162) → List (S97) → Int → List (S73) → List Int → List Int → Int → Int → Int → Int → Int → Int → Int → Int → Int → List Int → Option (Bool)
  | 0, _, _, _, _, _, _, _, _, _, _, _, _, _, _, _, _, _, _, _, _, _, _, _ => none
  | k + 1, x11, x12, x13, x36, x37, x38, x102000, x102001, x102002, x102003, x102004, x102005, x102006, x102007, x105000, x105001, x105002, x105003, x105004, x105005, x105006, x105007, x105008 => if x38 < x37 then (if 0 ≤ x38 then (if x38 < (x36.length : Int) then (if ((rd_T73 x36 x38).f0) = x105000 then ((impl_Ahead.f ((rd_T73 x36 x38).f0) ((rd_T73 x36 x38).f1.f0) ((rd_T73 x36 x38).f1.f1) ((rd_T73 x36 x38).f1.f2) ((rd_T73 x36 x38).f2) ((rd_T73 x36 x38).f3) ((rd_T73 x36 x38).f4) ((rd_T73 x36 x38).f5.f0) ((rd_T73 x36 x38).f5.f1) x105000 x105001 x105002 x105003 x105004 x105005 x105006 x105007 x105008).bind fun t111 => (if t111 = true then (impl_JudgeTimes.l1 k x11 x12 x13 x36 x37 (wrap64 (x38 + 1)) x102000 x102001 x102002 x102003 x102004 x102005 x102006 x102007 x105000 x105001 x105002 x105003 x105004 x105005 x105006 x105007 x105008) else (some false))) else (impl_JudgeTimes.l1 k x11 x12 x13 x36 x37 (wrap64 (x38 + 1)) x102000 x102001 x102002 x102003 x102004 x102005 x102006 x102007 x105000 x105001 x105002 x105003 x105004 x105005 x105006 x105007 x105008)) else (none)) else (none)) else (impl_JudgeTimes.l0 k x11 x12 (wrap64 (x13 + 1)) x102000 x102001 x102002 x102003 x102004 x102005 x102006 x102007)
end
def impl_JudgeTimes.f (k : Nat) (l0_0 : List (S140)) (l0_1 : List (S162)) (l0_2 : List (S97)) (a0_3 : Int) (l0_4 : List (S73)) (l0_5 : List Int) (l0_6 : List Int) (a0_7 : Int) : Option (Bool) := (impl_MachineOk.f k l0_0 l0_1 l0_2 a0_3 l0_4 l0_5 l0_6 a0_7).bind fun t102 => (if t102 = true then (impl_JudgeTimes.l0 k l0_4 (l0_4.length : Int) 0 l0_0 l0_1 l0_2 a0_3 l0_4 l0_5 l0_6 a0_7) else (some false))
set_option maxHeartbeats 8000000 in
set_option maxRecDepth 100000 in
theorem impl_JudgeTimes.calls (k : Nat) (A0_0 : Option Addr) (c0_0 : Nat) (l0_0 : List (S140)) (A0_1 : Option Addr) (c0_1 : Nat) (l0_1 : List (S162)) (A0_2 : Option Addr) (c0_2 : Nat) (l0_2 : List (S97)) (a0_3 : Int) (A0_4 : Option Addr) (c0_4 : Nat) (l0_4 : List (S73)) (A0_5 : Option Addr) (c0_5 : Nat) (l0_5 : List Int) (A0_6 : Option Addr) (c0_6 : Nat) (l0_6 : List Int) (a0_7 : Int) (r : Bool) (w : World) (hr0_0 : Kd.C k140 w A0_0 l0_0.length l0_0) (hc0_0 : l0_0.length ≤ c0_0) (hr0_1 : Kd.C k162 w A0_1 l0_1.length l0_1) (hc0_1 : l0_1.length ≤ c0_1) (hr0_2 : Kd.C k97 w A0_2 l0_2.length l0_2) (hc0_2 : l0_2.length ≤ c0_2) (hr0_4 : Kd.C k73 w A0_4 l0_4.length l0_4) (hc0_4 : l0_4.length ≤ c0_4) (hr0_5 : Kd.C (Kd.int .i64) w A0_5 l0_5.length l0_5) (hc0_5 : l0_5.length ≤ c0_5) (hr0_6 : Kd.C (Kd.int .i64) w A0_6 l0_6.length l0_6) (hc0_6 : l0_6.length ≤ c0_6) (h : impl_JudgeTimes.f k l0_0 l0_1 l0_2 a0_3 l0_4 l0_5 l0_6 a0_7 = some r) :
    Calls Tryz.prog 13 #[.agg #[.slice A0_0 l0_0.length c0_0, .slice A0_1 l0_1.length c0_1, .slice A0_2 l0_2.length c0_2, .int .i64 a0_3, .slice A0_4 l0_4.length c0_4, .slice A0_5 l0_5.length c0_5, .slice A0_6 l0_6.length c0_6, .int .i64 a0_7]] w fun e w' => e = .returned (.bool r) ∧ Below w.heap.size w w' := by
  have hu43 := Tryz.underlying43
  have hu73 := Tryz.underlying73
  have HR0_0 := aM hr0_0
  have HC0_0 := aM hc0_0
  clear hr0_0 hc0_0
  have HR0_1 := aM hr0_1
  have HC0_1 := aM hc0_1
  clear hr0_1 hc0_1
  have HR0_2 := aM hr0_2
  have HC0_2 := aM hc0_2
  clear hr0_2 hc0_2
  have HR0_4 := aM hr0_4
  have HC0_4 := aM hc0_4
  clear hr0_4 hc0_4
  have HR0_5 := aM hr0_5
  have HC0_5 := aM hc0_5
  clear hr0_5 hc0_5
  have HR0_6 := aM hr0_6
  have HC0_6 := aM hc0_6
  clear hr0_6 hc0_6
  have HB := aM (Below.refl w.heap.size w)
  have H := h
  unfold impl_JudgeTimes.f at H
  clear h
  replace H := bE H; obtain ⟨t102, A2, H⟩ := H
  go_enter Tryz.func13, Tryz.ntmps13
  go_wp2_with (first | (refine boxE 1 #[.slice A0_0 l0_0.length c0_0, .slice A0_1 l0_1.length c0_1, .slice A0_2 l0_2.length c0_2, .int .i64 a0_3, .slice A0_4 l0_4.length c0_4, .slice A0_5 l0_5.length c0_5, .slice A0_6 l0_6.length c0_6, .int .i64 a0_7] 43 ?_; intro gbz1 hg wz1 hbox hb; have BKz1 := aM (hbox); have GWz1 := aG hg HB; have GEz1 := aG hg HB; replace HB := aS HB hb; clear hb hbox hg; obtain ⟨hczz1, hczz2, hczz3, hczz4, hczz5, hczz6, hczz7, hczz8, hfzz1, hfzz2, hfzz3, hfzz4, hfzz5, hfzz6, hfzz7, hfzz8⟩ := cZ8 BKz1.out; refine Stop.out ?_))
  refine ⟨?_⟩
  by_cases c3 : t102 = true
  case neg =>
    replace c3 := Bool.eq_false_iff.mpr c3
    subst c3
    rw [if_neg nft] at H
    obtain rfl := sI H
    go_wp2_with (first | (refine goesM 48 8 Tryz.func48 #[.agg #[.slice A0_0 l0_0.length c0_0, .slice A0_1 l0_1.length c0_1, .slice A0_2 l0_2.length c0_2, .int .i64 a0_3, .slice A0_4 l0_4.length c0_4, .slice A0_5 l0_5.length c0_5, .slice A0_6 l0_6.length c0_6, .int .i64 a0_7]] ?_; refine (impl_MachineOk.calls _ _ _ _ _ _ _ _ _ _ _ _ _ _ _ _ _ _ _ _ _ _ _ (cC HR0_0.out HB.out) HC0_0.out (cC HR0_1.out HB.out) HC0_1.out (cC HR0_2.out HB.out) HC0_2.out (cC HR0_4.out HB.out) HC0_4.out (cC HR0_5.out HB.out) HC0_5.out (cC HR0_6.out HB.out) HC0_6.out A2.out).mono ?_; rintro e wz2 ⟨rfl, hb⟩; refine ⟨_, rfl, ?_⟩; replace BKz1 := aB BKz1 hb; replace HB := aS HB hb; clear hb))
    go_ret
    exact ⟨rE, (hX HB.out)⟩
  subst c3
  rw [if_pos rfl] at H
  have H' := aM H
  clear H
  go_wp2_with (first | (refine goesM 48 8 Tryz.func48 #[.agg #[.slice A0_0 l0_0.length c0_0, .slice A0_1 l0_1.length c0_1, .slice A0_2 l0_2.length c0_2, .int .i64 a0_3, .slice A0_4 l0_4.length c0_4, .slice A0_5 l0_5.length c0_5, .slice A0_6 l0_6.length c0_6, .int .i64 a0_7]] ?_; refine (impl_MachineOk.calls _ _ _ _ _ _ _ _ _ _ _ _ _ _ _ _ _ _ _ _ _ _ _ (cC HR0_0.out HB.out) HC0_0.out (cC HR0_1.out HB.out) HC0_1.out (cC HR0_2.out HB.out) HC0_2.out (cC HR0_4.out HB.out) HC0_4.out (cC HR0_5.out HB.out) HC0_5.out (cC HR0_6.out HB.out) HC0_6.out A2.out).mono ?_; rintro e wz2 ⟨rfl, hb⟩; refine ⟨_, rfl, ?_⟩; replace BKz1 := aB BKz1 hb; replace HB := aS HB hb; clear hb; obtain ⟨hczz9, hczz10, hczz11, hczz12, hczz13, hczz14, hczz15, hczz16, hfzz9, hfzz10, hfzz11, hfzz12, hfzz13, hfzz14, hfzz15, hfzz16⟩ := cZ8 BKz1.out))
  go_loopg [13] k (fun kq v13 w' => ∃ (x13_1 : Int), v13 = .int .i64 x13_1 ∧ Aside0 (impl_JudgeTimes.l0 kq l0_4 (l0_4.length : Int) x13_1 l0_0 l0_1 l0_2 a0_3 l0_4 l0_5 l0_6 a0_7 = some r) ∧ Aside0 (kq ≤ k) ∧ Aside0 (w'.heap[gbz1]? = some (.cells #[(.slice A0_0 l0_0.length c0_0), (.slice A0_1 l0_1.length c0_1), (.slice A0_2 l0_2.length c0_2), .int .i64 a0_3, (.slice A0_4 l0_4.length c0_4), (.slice A0_5 l0_5.length c0_5), (.slice A0_6 l0_6.length c0_6), .int .i64 a0_7] 43 (0, 0))) ∧ Aside0 (Below w.heap.size w w'))
  case atStart => exact ⟨(0), rS, H', ⟨Nat.le_refl _⟩, ⟨(bX BKz1.out)⟩, ⟨(hX HB.out)⟩⟩
  case round =>
    clear H'
    try clear p2
    try clear c3
    try clear hczz1 hczz2 hczz3 hczz4 hczz5 hczz6 hczz7 hczz8 hfzz1 hfzz2 hfzz3 hfzz4 hfzz5 hfzz6 hfzz7 hfzz8
    try clear hczz9 hczz10 hczz11 hczz12 hczz13 hczz14 hczz15 hczz16 hfzz9 hfzz10 hfzz11 hfzz12 hfzz13 hfzz14 hfzz15 hfzz16
    obtain ⟨x13_1, rfl, HA, HKy1, BKz1, HB⟩ := hrel
    cases gk with
    | zero => exact absurd HA.out (by simp [impl_JudgeTimes.l0])
    | succ k1 =>
      have H := HA.out
      clear HA
      simp only [impl_JudgeTimes.l0] at H
      by_cases c8 : x13_1 < (l0_4.length : Int)
      case neg =>
        rw [if_neg c8] at H
        have c8b0 := decide_eq_false c8
        clear c8
        obtain rfl := sI H
        go_wp2
        go_ret
        exact ⟨rE, (hX HB.out)⟩
      rw [if_pos c8] at H
      have c8b0 := decide_eq_true c8
      clear c8
      replace H := ifP H; obtain ⟨c9, H⟩ := H
      have c9b0 := decide_eq_true c9
      clear c9
      replace H := ifP H; obtain ⟨c10, H⟩ := H
      have c10b0 := decide_eq_true c10
      clear c10
      have HC11 := aM H
      clear H
      have px1 : 0 ≤ (x13_1 : Int) := odA
      have qx1 : x13_1 < (l0_4.length : Int) := odA
      obtain ⟨adx1, Ax1, cx1, ex1, hxx1, hxx2, hxx3, hxx4, hxx5, hxx6, hxx7, hxx8, hxx9, hlx1, hix1⟩ := at_T73b HR0_4.out HB.out x13_1 px1 qx1
      cases ex1
      have HRx1 := aM hix1
      have HCx1 := aM hlx1
      clear hix1 hlx1
      replace px1 := eq_true px1
      replace qx1 := eq_true qx1
      go_upto_region 6 with (first | ((with_reducible refine gate_dst (N := 4) rfl ?_); refine boxE 4 #[.int .i64 0, .int .i64 0, .int .i64 0, .int .i64 0, .int .i64 0, .int .i64 0, .int .i64 0, .int .i64 0, .slice none 0 0] 73 ?_; intro gbx1 hg wx1 hbox hb; have BKx1 := aM (hbox); have GWx1 := aG hg HB; have GEx1 := aG hg HB; have NBx1 := aL hg BKz1; have NBx2 := aR hg BKz1; replace BKz1 := aB BKz1 hb; replace HB := aS HB hb; clear hb hbox hg; have hnbx1 := NBx2.out; have hncx1 := NBx1.out; obtain ⟨hczx1, hczx2, hczx3, hczx4, hczx5, hczx6, hczx7, hczx8, hczx9, hfzx1, hfzx2, hfzx3, hfzx4, hfzx5, hfzx6, hfzx7, hfzx8, hfzx9⟩ := cZ9 BKx1.out))
      (try simp only [Act.put, List.setIfInBounds_toArray, List.set_cons_zero, List.set_cons_succ])
      go_cut [32] (fun vx1 wc => ∃ (kq : Nat) (x32_10 : Bool), vx1 = .bool x32_10 ∧ Aside0 (impl_JudgeTimes.j1 kq x13_1 l0_4 (l0_4.length : Int) x13_1 x32_10 l0_0 l0_1 l0_2 a0_3 l0_4 l0_5 l0_6 a0_7 ((rd_T73 l0_4 x13_1).f0) ((rd_T73 l0_4 x13_1).f1.f0) ((rd_T73 l0_4 x13_1).f1.f1) ((rd_T73 l0_4 x13_1).f1.f2) ((rd_T73 l0_4 x13_1).f2) ((rd_T73 l0_4 x13_1).f3) ((rd_T73 l0_4 x13_1).f4) ((rd_T73 l0_4 x13_1).f5.f0) ((rd_T73 l0_4 x13_1).f5.f1) = some r) ∧ Aside0 (kq ≤ k1) ∧ Aside0 (wc.heap[gbz1]? = some (.cells #[(.slice A0_0 l0_0.length c0_0), (.slice A0_1 l0_1.length c0_1), (.slice A0_2 l0_2.length c0_2), .int .i64 a0_3, (.slice (some adx1) l0_4.length c0_4), (.slice A0_5 l0_5.length c0_5), (.slice A0_6 l0_6.length c0_6), .int .i64 a0_7] 43 (0, 0))) ∧ Aside0 (wc.heap[gbx1]? = some (.cells #[.int .i64 ((rd_T73 l0_4 x13_1).f0), .int .i64 ((rd_T73 l0_4 x13_1).f1.f0), .int .i64 ((rd_T73 l0_4 x13_1).f1.f1), .int .i64 ((rd_T73 l0_4 x13_1).f1.f2), .int .i64 ((rd_T73 l0_4 x13_1).f2), .int .i64 ((rd_T73 l0_4 x13_1).f3), .int .i64 ((rd_T73 l0_4 x13_1).f4), .int .i64 ((rd_T73 l0_4 x13_1).f5.f0), (.slice Ax1 ((rd_T73 l0_4 x13_1).f5.f1).length cx1)] 73 (0, 0))) ∧ Aside0 (Below w.heap.size w wc))
      case first =>
        have H := HC11.out
        clear HC11
        by_cases c15 : ((rd_T73 l0_4 x13_1).f4) ≥ 0
        case neg =>
          rw [if_neg c15] at H
          have c15b0 := decide_eq_false c15
          clear c15
          (first | rw [c15b0] | (simp only [i64_w, i32_w]; rw [c15b0]) | skip)
          have H' := aM H
          clear H
          have hnbw1 := NBx2.out
          have hncw1 := NBx1.out
          obtain ⟨hczw1, hczw2, hczw3, hczw4, hczw5, hczw6, hczw7, hczw8, hczw9, hfzw1, hfzw2, hfzw3, hfzw4, hfzw5, hfzw6, hfzw7, hfzw8, hfzw9⟩ := cZ9 BKx1.out
          go_wp2
          go_meet
          case rel => exact ⟨_, (false), rS, H', ⟨by have := HKy1.out; first | omega | exact Nat.le_refl _⟩, ⟨(bF BKz1.out)⟩, ⟨(bP BKx1.out)⟩, ⟨(hX HB.out)⟩⟩
        rw [if_pos c15] at H
        have c15b0 := decide_eq_true c15
        clear c15
        (first | rw [c15b0] | (simp only [i64_w, i32_w]; rw [c15b0]) | skip)
        by_cases c16 : ((rd_T73 l0_4 x13_1).f3) < 0
        · rw [if_pos c16] at H
          have c16b0 := decide_eq_true c16
          clear c16
          have H' := aM H
          clear H
          have hnbw1 := NBx2.out
          have hncw1 := NBx1.out
          obtain ⟨hczw1, hczw2, hczw3, hczw4, hczw5, hczw6, hczw7, hczw8, hczw9, hfzw1, hfzw2, hfzw3, hfzw4, hfzw5, hfzw6, hfzw7, hfzw8, hfzw9⟩ := cZ9 BKx1.out
          go_wp2
          go_meet
          case rel => exact ⟨_, (true), rS, H', ⟨by have := HKy1.out; first | omega | exact Nat.le_refl _⟩, ⟨(bF BKz1.out)⟩, ⟨(bP BKx1.out)⟩, ⟨(hX HB.out)⟩⟩
        rw [if_neg c16] at H
        have c16b0 := decide_eq_false c16
        clear c16
        have H' := aM H
        clear H
        have hnbw1 := NBx2.out
        have hncw1 := NBx1.out
        obtain ⟨hczw1, hczw2, hczw3, hczw4, hczw5, hczw6, hczw7, hczw8, hczw9, hfzw1, hfzw2, hfzw3, hfzw4, hfzw5, hfzw6, hfzw7, hfzw8, hfzw9⟩ := cZ9 BKx1.out
        go_wp2
        go_meet
        case rel => exact ⟨_, (decide (((rd_T73 l0_4 x13_1).f3) > ((rd_T73 l0_4 x13_1).f4))), rS, H', ⟨by have := HKy1.out; first | omega | exact Nat.le_refl _⟩, ⟨(bF BKz1.out)⟩, ⟨(bP BKx1.out)⟩, ⟨(hX HB.out)⟩⟩
      case rest =>
        clear HC11
        try clear p1
        try clear q1
        try clear hx1
        try clear p2
        try clear c3
        try clear c8
        try clear c8b0
        try clear c9
        try clear c9b0
        try clear c10
        try clear c10b0
        try clear p10
        try clear q10
        try clear hx10
        try clear hczx1 hczx2 hczx3 hczx4 hczx5 hczx6 hczx7 hczx8 hczx9 hfzx1 hfzx2 hfzx3 hfzx4 hfzx5 hfzx6 hfzx7 hfzx8 hfzx9
        try clear hczz1 hczz2 hczz3 hczz4 hczz5 hczz6 hczz7 hczz8 hfzz1 hfzz2 hfzz3 hfzz4 hfzz5 hfzz6 hfzz7 hfzz8
        try clear hczz9 hczz10 hczz11 hczz12 hczz13 hczz14 hczz15 hczz16 hfzz9 hfzz10 hfzz11 hfzz12 hfzz13 hfzz14 hfzz15 hfzz16
        try clear hxx1
        try clear hxx2
        try clear hxx3
        try clear hxx4
        try clear hxx5
        try clear hxx6
        try clear hxx7
        try clear hxx8
        try clear hxx9
        try clear px1
        try clear qx1
        obtain ⟨kq, x32_10, rfl, HA, HJw1, BKz1, BKx1, HB⟩ := hcut
        cases kq with
        | zero => exact absurd HA.out (by simp [impl_JudgeTimes.j1])
        | succ kj10 =>
          have H := HA.out
          clear HA
          simp only [impl_JudgeTimes.j1] at H
          by_cases c23 : x32_10 = true
          · subst c23
            rw [if_pos rfl] at H
            obtain rfl := sI H
            go_wp2
            go_ret
            exact ⟨rE, (hX HB.out)⟩
          replace c23 := Bool.eq_false_iff.mpr c23
          subst c23
          rw [if_neg nft] at H
          replace H := ifP H; obtain ⟨c24, H⟩ := H
          have c24b0 := eq_true c24
          have c24b1 := decide_eq_true c24
          clear c24
          replace H := ifP H; obtain ⟨c25, H⟩ := H
          have c25b0 := eq_true c25
          have c25b1 := decide_eq_true c25
          clear c25
          replace H := sE H; obtain ⟨y105, Ny105, H⟩ := H
          have H' := aM H
          clear H
          have hnbv1 := NBx1.out
          have hncv1 := NBx2.out
          obtain ⟨hczv1, hczv2, hczv3, hczv4, hczv5, hczv6, hczv7, hczv8, hfzv1, hfzv2, hfzv3, hfzv4, hfzv5, hfzv6, hfzv7, hfzv8⟩ := cZ8 BKz1.out
          have qv1 : (x13_1 : Int) ≤ ((l0_4.length : Int) : Int) := odA
          obtain ⟨iv1, hiv1, _, hszv1, _⟩ := info_parts info73
          have hroomv1 : l0_4.length ≤ c0_4 := HC0_4.out
          have hCv1 : Kd.C k73 _ (some adx1) l0_4.length l0_4 := HR0_4.out
          have hcutv1 := cut_to (P := Tryz.prog) 40 73 .i64 Tryz.underlying40 hiv1 (some adx1) l0_4.length c0_4 x13_1 (odA) qv1 hroomv1
          have hrv1 := Kd.C_take (m := (x13_1 : Int).toNat) hCv1 (by omega)
          have hyv1 : y105.length = (x13_1 : Int).toNat := (by rw [Ny105.out, List.length_take]; omega)
          rw [← Ny105.out] at hrv1
          rw [← hyv1] at hcutv1
          have HRv1 := aM hrv1
          have HCv1 := aM (show y105.length ≤ c0_4 from by omega)
          clear hrv1 hCv1 hroomv1 hiv1 hszv1
          have KYv1 := aM hyv1
          clear hyv1
          replace qv1 := eq_true qv1
          go_wp2
          go_loopg [38] kj10 (fun kq v38 w' => ∃ (x38_3 : Int), v38 = .int .i64 x38_3 ∧ Aside0 (impl_JudgeTimes.l1 kq l0_4 (l0_4.length : Int) x13_1 y105 (y105.length : Int) x38_3 l0_0 l0_1 l0_2 a0_3 l0_4 l0_5 l0_6 a0_7 ((rd_T73 l0_4 x13_1).f0) ((rd_T73 l0_4 x13_1).f1.f0) ((rd_T73 l0_4 x13_1).f1.f1) ((rd_T73 l0_4 x13_1).f1.f2) ((rd_T73 l0_4 x13_1).f2) ((rd_T73 l0_4 x13_1).f3) ((rd_T73 l0_4 x13_1).f4) ((rd_T73 l0_4 x13_1).f5.f0) ((rd_T73 l0_4 x13_1).f5.f1) = some r) ∧ Aside0 (kq ≤ kj10) ∧ Aside0 (w'.heap[gbz1]? = some (.cells #[(.slice A0_0 l0_0.length c0_0), (.slice A0_1 l0_1.length c0_1), (.slice A0_2 l0_2.length c0_2), .int .i64 a0_3, (.slice (some adx1) l0_4.length c0_4), (.slice A0_5 l0_5.length c0_5), (.slice A0_6 l0_6.length c0_6), .int .i64 a0_7] 43 (0, 0))) ∧ Aside0 (w'.heap[gbx1]? = some (.cells #[.int .i64 ((rd_T73 l0_4 x13_1).f0), .int .i64 ((rd_T73 l0_4 x13_1).f1.f0), .int .i64 ((rd_T73 l0_4 x13_1).f1.f1), .int .i64 ((rd_T73 l0_4 x13_1).f1.f2), .int .i64 ((rd_T73 l0_4 x13_1).f2), .int .i64 ((rd_T73 l0_4 x13_1).f3), .int .i64 ((rd_T73 l0_4 x13_1).f4), .int .i64 ((rd_T73 l0_4 x13_1).f5.f0), (.slice Ax1 ((rd_T73 l0_4 x13_1).f5.f1).length cx1)] 73 (0, 0))) ∧ Aside0 (Below w.heap.size w w'))
          case atStart => exact ⟨(0), rS, H', ⟨Nat.le_refl _⟩, ⟨(bX BKz1.out)⟩, ⟨(bX BKx1.out)⟩, ⟨(hX HB.out)⟩⟩
          case round =>
            clear H'
            try clear p1
            try clear q1
            try clear hx1
            try clear p2
            try clear q2
            try clear c3
            try clear c8
            try clear c8b0
            try clear c9
            try clear c9b0
            try clear c10
            try clear c10b0
            try clear p10
            try clear q10
            try clear hx10
            try clear c23
            try clear c24
            try clear c24b0
            try clear c24b1
            try clear c25
            try clear c25b0
            try clear c25b1
            try clear qv1
            try clear hczx1 hczx2 hczx3 hczx4 hczx5 hczx6 hczx7 hczx8 hczx9 hfzx1 hfzx2 hfzx3 hfzx4 hfzx5 hfzx6 hfzx7 hfzx8 hfzx9
            try clear hczv1 hczv2 hczv3 hczv4 hczv5 hczv6 hczv7 hczv8 hfzv1 hfzv2 hfzv3 hfzv4 hfzv5 hfzv6 hfzv7 hfzv8
            try clear hczz1 hczz2 hczz3 hczz4 hczz5 hczz6 hczz7 hczz8 hfzz1 hfzz2 hfzz3 hfzz4 hfzz5 hfzz6 hfzz7 hfzz8
            try clear hczz9 hczz10 hczz11 hczz12 hczz13 hczz14 hczz15 hczz16 hfzz9 hfzz10 hfzz11 hfzz12 hfzz13 hfzz14 hfzz15 hfzz16
            try clear hxx1
            try clear hxx2
            try clear hxx3
            try clear hxx4
            try clear hxx5
            try clear hxx6
            try clear hxx7
            try clear hxx8
            try clear hxx9
            try clear px1
            try clear qx1
            obtain ⟨x38_3, rfl, HA, HKu1, BKz1, BKx1, HB⟩ := hrel
            cases gk with
            | zero => exact absurd HA.out (by simp [impl_JudgeTimes.l1])
            | succ k3 =>
              have H := HA.out
              clear HA
              simp only [impl_JudgeTimes.l1] at H
              by_cases c29 : x38_3 < (y105.length : Int)
              case neg =>
                rw [if_neg c29] at H
                have c29b0 := decide_eq_false c29
                clear c29
                have H' := aM H
                clear H
                go_wp2
                go_roundg k3
                case measure => have := HKy1.out; have := HJw1.out; have := HKu1.out; omega
                case rel => exact ⟨(wrap64 (x13_1 + 1)), rS, H', ⟨by have := HKy1.out; have := HJw1.out; have := HKu1.out; omega⟩, ⟨(bX BKz1.out)⟩, ⟨(hX HB.out)⟩⟩
              rw [if_pos c29] at H
              have c29b0 := decide_eq_true c29
              clear c29
              replace H := ifP H; obtain ⟨c30, H⟩ := H
              have c30b0 := decide_eq_true c30
              clear c30
              replace H := ifP H; obtain ⟨c31, H⟩ := H
              have c31b0 := decide_eq_true c31
              clear c31
              have pt1 : 0 ≤ (x38_3 : Int) := odA
              have qt1 : x38_3 < (y105.length : Int) := odA
              obtain ⟨adt1, At1, ct1, et1, hxt1, hxt2, hxt3, hxt4, hxt5, hxt6, hxt7, hxt8, hxt9, hlt1, hit1⟩ := at_T73b HRv1.out HB.out x38_3 pt1 qt1
              obtain rfl : adx1 = adt1 := (by injection et1)
              have HRt1 := aM hit1
              have HCt1 := aM hlt1
              clear hit1 hlt1
              replace pt1 := eq_true pt1
              replace qt1 := eq_true qt1
              go_wp2_with (first | (refine boxE 6 #[.int .i64 0, .int .i64 0, .int .i64 0, .int .i64 0, .int .i64 0, .int .i64 0, .int .i64 0, .int .i64 0, .slice none 0 0] 73 ?_; intro gbt1 hg wt1 hbox hb; have BKt1 := aM (hbox); have GWt1 := aG hg HB; have GEt1 := aG hg HB; have NBt1 := aL hg BKz1; have NBt2 := aR hg BKz1; have NBt3 := aL hg BKx1; have NBt4 := aR hg BKx1; replace BKz1 := aB BKz1 hb; replace BKx1 := aB BKx1 hb; replace HB := aS HB hb; clear hb hbox hg; have hnbt1 := NBt2.out; have hnct1 := NBt1.out; have hnbt2 := NBt4.out; have hnct2 := NBt3.out; obtain ⟨hczt1, hczt2, hczt3, hczt4, hczt5, hczt6, hczt7, hczt8, hczt9, hfzt1, hfzt2, hfzt3, hfzt4, hfzt5, hfzt6, hfzt7, hfzt8, hfzt9⟩ := cZ9 BKt1.out; have hnbt3 := NBx2.out; have hnct3 := NBx1.out; obtain ⟨hczt10, hczt11, hczt12, hczt13, hczt14, hczt15, hczt16, hczt17, hczt18, hfzt10, hfzt11, hfzt12, hfzt13, hfzt14, hfzt15, hfzt16, hfzt17, hfzt18⟩ := cZ9 BKx1.out; refine Stop.out ?_))
              refine ⟨?_⟩
              by_cases c32 : ((rd_T73 y105 x38_3).f0) = ((rd_T73 l0_4 x13_1).f0)
              case neg =>
                rw [if_neg c32] at H
                obtain ⟨c32b0, c32b1⟩ := eqF c32
                have H' := aM H
                clear H
                go_wp2
                go_roundg k3
                case measure => have := HKy1.out; have := HJw1.out; have := HKu1.out; omega
                case rel => exact ⟨(wrap64 (x38_3 + 1)), rS, H', ⟨by have := HKy1.out; have := HJw1.out; have := HKu1.out; omega⟩, ⟨(bF BKz1.out)⟩, ⟨(bF BKx1.out)⟩, ⟨(hX HB.out)⟩⟩
              rw [if_pos c32] at H
              obtain ⟨c32b0, c32b1⟩ := eqT c32
              clear c32
              replace H := bE H; obtain ⟨t111, A33, H⟩ := H
              by_cases c34 : t111 = true
              case neg =>
                replace c34 := Bool.eq_false_iff.mpr c34
                subst c34
                rw [if_neg nft] at H
                obtain rfl := sI H
                go_wp2_with (first | (go_at_call 49; (with_reducible refine (impl_Ahead.calls ((rd_T73 y105 x38_3).f0) ((rd_T73 y105 x38_3).f1.f0) ((rd_T73 y105 x38_3).f1.f1) ((rd_T73 y105 x38_3).f1.f2) ((rd_T73 y105 x38_3).f2) ((rd_T73 y105 x38_3).f3) ((rd_T73 y105 x38_3).f4) ((rd_T73 y105 x38_3).f5.f0) _ _ ((rd_T73 y105 x38_3).f5.f1) ((rd_T73 l0_4 x13_1).f0) ((rd_T73 l0_4 x13_1).f1.f0) ((rd_T73 l0_4 x13_1).f1.f1) ((rd_T73 l0_4 x13_1).f1.f2) ((rd_T73 l0_4 x13_1).f2) ((rd_T73 l0_4 x13_1).f3) ((rd_T73 l0_4 x13_1).f4) ((rd_T73 l0_4 x13_1).f5.f0) _ _ ((rd_T73 l0_4 x13_1).f5.f1) false _ (by exact Kd.C_below HRt1.out (hX HB.out)) HCt1.out (by exact Kd.C_below HRx1.out (hX HB.out)) HCx1.out A33.out).mono ?_); rintro e wt2 ⟨rfl, hb⟩; replace BKz1 := aF BKz1 hb; replace BKx1 := aF BKx1 hb; replace BKt1 := aM (blk_below (g := gbt1) (o := .cells #[.int .i64 ((rd_T73 y105 x38_3).f0), .int .i64 ((rd_T73 y105 x38_3).f1.f0), .int .i64 ((rd_T73 y105 x38_3).f1.f1), .int .i64 ((rd_T73 y105 x38_3).f1.f2), .int .i64 ((rd_T73 y105 x38_3).f2), .int .i64 ((rd_T73 y105 x38_3).f3), .int .i64 ((rd_T73 y105 x38_3).f4), .int .i64 ((rd_T73 y105 x38_3).f5.f0), .slice At1 ((rd_T73 y105 x38_3).f5.f1).length ct1] 73 (0, 0)) (bP BKt1.out) hb); replace HB := aS HB hb; clear hb))
                go_ret
                exact ⟨rE, (hX HB.out)⟩
              subst c34
              rw [if_pos rfl] at H
              have H' := aM H
              clear H
              go_wp2_with (first | (go_at_call 49; (with_reducible refine (impl_Ahead.calls ((rd_T73 y105 x38_3).f0) ((rd_T73 y105 x38_3).f1.f0) ((rd_T73 y105 x38_3).f1.f1) ((rd_T73 y105 x38_3).f1.f2) ((rd_T73 y105 x38_3).f2) ((rd_T73 y105 x38_3).f3) ((rd_T73 y105 x38_3).f4) ((rd_T73 y105 x38_3).f5.f0) _ _ ((rd_T73 y105 x38_3).f5.f1) ((rd_T73 l0_4 x13_1).f0) ((rd_T73 l0_4 x13_1).f1.f0) ((rd_T73 l0_4 x13_1).f1.f1) ((rd_T73 l0_4 x13_1).f1.f2) ((rd_T73 l0_4 x13_1).f2) ((rd_T73 l0_4 x13_1).f3) ((rd_T73 l0_4 x13_1).f4) ((rd_T73 l0_4 x13_1).f5.f0) _ _ ((rd_T73 l0_4 x13_1).f5.f1) true _ (by exact Kd.C_below HRt1.out (hX HB.out)) HCt1.out (by exact Kd.C_below HRx1.out (hX HB.out)) HCx1.out A33.out).mono ?_); rintro e wt2 ⟨rfl, hb⟩; replace BKz1 := aF BKz1 hb; replace BKx1 := aF BKx1 hb; replace BKt1 := aM (blk_below (g := gbt1) (o := .cells #[.int .i64 ((rd_T73 y105 x38_3).f0), .int .i64 ((rd_T73 y105 x38_3).f1.f0), .int .i64 ((rd_T73 y105 x38_3).f1.f1), .int .i64 ((rd_T73 y105 x38_3).f1.f2), .int .i64 ((rd_T73 y105 x38_3).f2), .int .i64 ((rd_T73 y105 x38_3).f3), .int .i64 ((rd_T73 y105 x38_3).f4), .int .i64 ((rd_T73 y105 x38_3).f5.f0), .slice At1 ((rd_T73 y105 x38_3).f5.f1).length ct1] 73 (0, 0)) (bP BKt1.out) hb); replace HB := aS HB hb; clear hb))
              go_roundg k3
              case measure => have := HKy1.out; have := HJw1.out; have := HKu1.out; omega
              case rel => exact ⟨(wrap64 (x38_3 + 1)), rS, H', ⟨by have := HKy1.out; have := HJw1.out; have := HKu1.out; omega⟩, ⟨(bX BKz1.out)⟩, ⟨(bX BKx1.out)⟩, ⟨(hX HB.out)⟩⟩
def laws_eqIntS.l0 : Nat → List Int → List Int → Int → Option (Bool)
  | 0, _, _, _ => none
  | k + 1, x0, x1, x5 => if x5 < (x0.length : Int) then (if 0 ≤ x5 then (if x5 < (x1.length : Int) then (if (rd x0 x5) = (rd x1 x5) then (laws_eqIntS.l0 k x0 x1 (wrap64 (x5 + 1))) else (some false)) else (none)) else (none)) else (some true)
def laws_eqIntS.f (k : Nat) (l0 : List Int) (l1 : List Int) : Option (Bool) := if (l0.length : Int) = (l1.length : Int) then (laws_eqIntS.l0 k l0 l1 0) else (some false)
set_option maxHeartbeats 8000000 in
set_option maxRecDepth 100000 in
theorem laws_eqIntS.calls (k : Nat) (A0 : Option Addr) (c0 : Nat) (l0 : List Int) (A1 : Option Addr) (c1 : Nat) (l1 : List Int) (r : Bool) (w : World) (hr0 : Kd.C (Kd.int .i64) w A0 l0.length l0) (hc0 : l0.length ≤ c0) (hr1 : Kd.C (Kd.int .i64) w A1 l1.length l1) (hc1 : l1.length ≤ c1) (h : laws_eqIntS.f k l0 l1 = some r) :
    Calls Tryz.prog 53 #[.slice A0 l0.length c0, .slice A1 l1.length c1] w fun e w' => e = .returned (.bool r) ∧ Drawn0 w w' := by
  have HR0 := aM hr0
  have HC0 := aM hc0
  clear hr0 hc0
  have HR1 := aM hr1
  have HC1 := aM hc1
  clear hr1 hc1
  have H := h
  unfold laws_eqIntS.f at H
  clear h
  go_enter Tryz.func53, Tryz.ntmps53
  by_cases c3 : (l0.length : Int) = (l1.length : Int)
  case neg =>
    rw [if_neg c3] at H
    obtain ⟨c3b0, c3b1⟩ := eqF c3
    have c3b2 : (l0.length == l1.length) = false := by first | simpa using c3 | (simp at c3 ⊢; omega)
    obtain rfl := sI H
    go_wp2
    repeat (go_quiet (fail); try go_wp2)
    go_ret
    exact ⟨by first | rfl | (simp; done) | (simp [*]; done), dX⟩
  rw [if_pos c3] at H
  obtain ⟨c3b0, c3b1⟩ := eqT c3
  have c3b2 : (l0.length == l1.length) = true := by first | simpa using c3 | (simp at c3 ⊢; omega)
  clear c3
  have H' := aM H
  clear H
  go_wp2
  repeat (go_quiet (fail); try go_wp2)
  go_loopg [5] k (fun kq v5 w' => ∃ (x5_1 : Int), v5 = .int .i64 x5_1 ∧ Aside0 (laws_eqIntS.l0 kq l0 l1 x5_1 = some r) ∧ Aside0 (kq ≤ k) ∧ Drawn0 w w')
  case atStart => exact ⟨(0), rS, H', ⟨Nat.le_refl _⟩, dX⟩
  case round =>
    clear H'
    try clear p2
    try clear c3
    try clear c3b0
    try clear c3b1
    try clear c3b2
    obtain ⟨x5_1, rfl, HA, HKy1, ⟨my1, rfl⟩⟩ := hrel
    cases gk with
    | zero => exact absurd HA.out (by simp [laws_eqIntS.l0])
    | succ k1 =>
      have H := HA.out
      clear HA
      simp only [laws_eqIntS.l0] at H
      by_cases c4 : x5_1 < (l0.length : Int)
      case neg =>
        rw [if_neg c4] at H
        have c4b0 := decide_eq_false c4
        clear c4
        obtain rfl := sI H
        go_wp2
        repeat (go_quiet (fail); try go_wp2)
        go_ret
        exact ⟨by first | rfl | (simp; done) | (simp [*]; done), dX⟩
      rw [if_pos c4] at H
      have c4b0 := decide_eq_true c4
      clear c4
      replace H := ifP H; obtain ⟨c5, H⟩ := H
      have c5b0 := decide_eq_true c5
      clear c5
      replace H := ifP H; obtain ⟨c6, H⟩ := H
      have c6b0 := decide_eq_true c6
      clear c6
      by_cases c7 : (rd l0 x5_1) = (rd l1 x5_1)
      case neg =>
        rw [if_neg c7] at H
        obtain ⟨c7b0, c7b1⟩ := eqF c7
        obtain rfl := sI H
        have px1 : 0 ≤ (x5_1 : Int) := odA
        have qx1 : x5_1 < (l0.length : Int) := odA
        obtain ⟨adx1, ex1, hxx1⟩ := Kd.at_int HR0.out x5_1 px1 qx1
        cases ex1
        replace px1 := eq_true px1
        replace qx1 := eq_true qx1
        have px2 : 0 ≤ (x5_1 : Int) := odA
        have qx2 : x5_1 < (l1.length : Int) := odA
        obtain ⟨adx2, ex2, hxx2⟩ := Kd.at_int HR1.out x5_1 px2 qx2
        cases ex2
        replace px2 := eq_true px2
        replace qx2 := eq_true qx2
        go_wp2
        repeat (go_quiet (fail); try go_wp2)
        go_ret
        exact ⟨by first | rfl | (simp; done) | (simp [*]; done), dX⟩
      rw [if_pos c7] at H
      obtain ⟨c7b0, c7b1⟩ := eqT c7
      clear c7
      have H' := aM H
      clear H
      have px1 : 0 ≤ (x5_1 : Int) := odA
      have qx1 : x5_1 < (l0.length : Int) := odA
      obtain ⟨adx1, ex1, hxx1⟩ := Kd.at_int HR0.out x5_1 px1 qx1
      cases ex1
      replace px1 := eq_true px1
      replace qx1 := eq_true qx1
      have px2 : 0 ≤ (x5_1 : Int) := odA
      have qx2 : x5_1 < (l1.length : Int) := odA
      obtain ⟨adx2, ex2, hxx2⟩ := Kd.at_int HR1.out x5_1 px2 qx2
      cases ex2
      replace px2 := eq_true px2
      replace qx2 := eq_true qx2
      go_wp2
      repeat (go_quiet (fail); try go_wp2)
      go_roundg k1
      case measure => have := HKy1.out; omega
      case rel => exact ⟨(wrap64 (x5_1 + 1)), rS, H', ⟨by have := HKy1.out; omega⟩, dX⟩
def laws_eqRows.f (k : Nat) (l0_0 : List Int) (a0_1 : Int) (l1_0 : List Int) (a1_1 : Int) : Option (Bool) := (laws_eqIntS.f k l0_0 l1_0).bind fun t103 => (if t103 = true then (if a0_1 = a1_1 then (some true) else (some false)) else (some false))
set_option maxHeartbeats 8000000 in
set_option maxRecDepth 100000 in
theorem laws_eqRows.calls (k : Nat) (A0_0 : Option Addr) (c0_0 : Nat) (l0_0 : List Int) (a0_1 : Int) (A1_0 : Option Addr) (c1_0 : Nat) (l1_0 : List Int) (a1_1 : Int) (r : Bool) (w : World) (hr0_0 : Kd.C (Kd.int .i64) w A0_0 l0_0.length l0_0) (hc0_0 : l0_0.length ≤ c0_0) (hr1_0 : Kd.C (Kd.int .i64) w A1_0 l1_0.length l1_0) (hc1_0 : l1_0.length ≤ c1_0) (h : laws_eqRows.f k l0_0 a0_1 l1_0 a1_1 = some r) :
    Calls Tryz.prog 23 #[.agg #[.slice A0_0 l0_0.length c0_0, .int .i64 a0_1], .agg #[.slice A1_0 l1_0.length c1_0, .int .i64 a1_1]] w fun e w' => e = .returned (.bool r) ∧ Below w.heap.size w w' := by
  have hu41 := Tryz.underlying41
  have HR0_0 := aM hr0_0
  have HC0_0 := aM hc0_0
  clear hr0_0 hc0_0
  have HR1_0 := aM hr1_0
  have HC1_0 := aM hc1_0
  clear hr1_0 hc1_0
  have HB := aM (Below.refl w.heap.size w)
  have H := h
  unfold laws_eqRows.f at H
  clear h
  replace H := bE H; obtain ⟨t103, A3, H⟩ := H
  go_enter Tryz.func23, Tryz.ntmps23
  go_wp2_with (first | (refine boxE 2 #[.slice A0_0 l0_0.length c0_0, .int .i64 a0_1] 41 ?_; intro gbz1 hg wz1 hbox hb; have BKz1 := aM (hbox); have GWz1 := aG hg HB; have GEz1 := aG hg HB; replace HB := aS HB hb; clear hb hbox hg) | (refine boxE 3 #[.slice A1_0 l1_0.length c1_0, .int .i64 a1_1] 41 ?_; intro gbz2 hg wz2 hbox hb; have BKz2 := aM (hbox); have GWz2 := aG hg HB; have GEz2 := aG hg HB; have NBz1 := aL hg BKz1; have NBz2 := aR hg BKz1; replace BKz1 := aB BKz1 hb; replace HB := aS HB hb; clear hb hbox hg; have hnbz1 := NBz1.out; have hncz1 := NBz2.out; obtain ⟨hczz1, hczz2, hfzz1, hfzz2⟩ := cZ2 BKz1.out; obtain ⟨hczz3, hczz4, hfzz3, hfzz4⟩ := cZ2 BKz2.out; refine Stop.out ?_))
  refine ⟨?_⟩
  by_cases c4 : t103 = true
  case neg =>
    replace c4 := Bool.eq_false_iff.mpr c4
    subst c4
    rw [if_neg nft] at H
    obtain rfl := sI H
    go_wp2_with (first | (refine goesM 53 9 Tryz.func53 #[.slice A0_0 l0_0.length c0_0, .slice A1_0 l1_0.length c1_0] ?_; refine (laws_eqIntS.calls _ _ _ _ _ _ _ _ _ (cC HR0_0.out HB.out) HC0_0.out (cC HR1_0.out HB.out) HC1_0.out A3.out).mono ?_; rintro e w' ⟨rfl, ⟨nd, rfl⟩⟩; refine ⟨_, rfl, ?_⟩))
    go_ret
    exact ⟨rE, (hX HB.out)⟩
  subst c4
  rw [if_pos rfl] at H
  go_wp2_with (first | (refine goesM 53 9 Tryz.func53 #[.slice A0_0 l0_0.length c0_0, .slice A1_0 l1_0.length c1_0] ?_; refine (laws_eqIntS.calls _ _ _ _ _ _ _ _ _ (cC HR0_0.out HB.out) HC0_0.out (cC HR1_0.out HB.out) HC1_0.out A3.out).mono ?_; rintro e w' ⟨rfl, ⟨nd, rfl⟩⟩; refine ⟨_, rfl, ?_⟩; refine Stop.out ?_))
  refine ⟨?_⟩
  by_cases c5 : a0_1 = a1_1
  case neg =>
    rw [if_neg c5] at H
    obtain ⟨c5b0, c5b1⟩ := eqF c5
    obtain rfl := sI H
    go_wp2
    go_ret
    exact ⟨rE, (hX HB.out)⟩
  rw [if_pos c5] at H
  obtain ⟨c5b0, c5b1⟩ := eqT c5
  clear c5
  obtain rfl := sI H
  go_wp2
  go_ret
  exact ⟨rE, (hX HB.out)⟩
def laws_eqWord.f (a0_0 : Int) (a0_1 : Int) (a0_2 : Int) (a1_0 : Int) (a1_1 : Int) (a1_2 : Int) : Option (Bool) := if a0_0 = a1_0 then (if a0_1 = a1_1 then (if a0_2 = a1_2 then (some true) else (some false)) else (some false)) else (some false)
set_option maxHeartbeats 8000000 in
set_option maxRecDepth 100000 in
theorem laws_eqWord.calls (a0_0 : Int) (a0_1 : Int) (a0_2 : Int) (a1_0 : Int) (a1_1 : Int) (a1_2 : Int) (r : Bool) (w : World) (h : laws_eqWord.f a0_0 a0_1 a0_2 a1_0 a1_1 a1_2 = some r) :
    Calls Tryz.prog 186 #[.agg #[.int .i64 a0_0, .int .i64 a0_1, .int .i64 a0_2], .agg #[.int .i64 a1_0, .int .i64 a1_1, .int .i64 a1_2]] w fun e w' => e = .returned (.bool r) ∧ Below w.heap.size w w' := by
  have hu140 := Tryz.underlying140
  have HB := aM (Below.refl w.heap.size w)
  have H := h
  unfold laws_eqWord.f at H
  clear h
  go_enter Tryz.func186, Tryz.ntmps186
  go_wp2_with (first | (refine boxE 2 #[.int .i64 a0_0, .int .i64 a0_1, .int .i64 a0_2] 140 ?_; intro gbz1 hg wz1 hbox hb; have BKz1 := aM (hbox); have GWz1 := aG hg HB; have GEz1 := aG hg HB; replace HB := aS HB hb; clear hb hbox hg) | (refine boxE 3 #[.int .i64 a1_0, .int .i64 a1_1, .int .i64 a1_2] 140 ?_; intro gbz2 hg wz2 hbox hb; have BKz2 := aM (hbox); have GWz2 := aG hg HB; have GEz2 := aG hg HB; have NBz1 := aL hg BKz1; have NBz2 := aR hg BKz1; replace BKz1 := aB BKz1 hb; replace HB := aS HB hb; clear hb hbox hg; have hnbz1 := NBz1.out; have hncz1 := NBz2.out; obtain ⟨hczz1, hczz2, hczz3, hfzz1, hfzz2, hfzz3⟩ := cZ3 BKz1.out; obtain ⟨hczz4, hczz5, hczz6, hfzz4, hfzz5, hfzz6⟩ := cZ3 BKz2.out; refine Stop.out ?_))
  refine ⟨?_⟩
  by_cases c3 : a0_0 = a1_0
  case neg =>
    rw [if_neg c3] at H
    obtain ⟨c3b0, c3b1⟩ := eqF c3
    obtain rfl := sI H
    go_wp2
    go_ret
    exact ⟨rE, (hX HB.out)⟩
  rw [if_pos c3] at H
  obtain ⟨c3b0, c3b1⟩ := eqT c3
  clear c3
  by_cases c4 : a0_1 = a1_1
  case neg =>
    rw [if_neg c4] at H
    obtain ⟨c4b0, c4b1⟩ := eqF c4
    obtain rfl := sI H
    go_wp2
    go_ret
    exact ⟨rE, (hX HB.out)⟩
  rw [if_pos c4] at H
  obtain ⟨c4b0, c4b1⟩ := eqT c4
  clear c4
  by_cases c5 : a0_2 = a1_2
  case neg =>
    rw [if_neg c5] at H
    obtain ⟨c5b0, c5b1⟩ := eqF c5
    obtain rfl := sI H
    go_wp2
    go_ret
    exact ⟨rE, (hX HB.out)⟩
  rw [if_pos c5] at H
  obtain ⟨c5b0, c5b1⟩ := eqT c5
  clear c5
  obtain rfl := sI H
  go_wp2
  go_ret
  exact ⟨rE, (hX HB.out)⟩
def laws_eqWordS.l0 : Nat → List (S140) → List (S140) → Int → Option (Bool)
  | 0, _, _, _ => none
  | k + 1, x0, x1, x5 => if x5 < (x0.length : Int) then (if 0 ≤ x5 then (if x5 < (x1.length : Int) then ((laws_eqWord.f ((rd_T140 x0 x5).f0) ((rd_T140 x0 x5).f1) ((rd_T140 x0 x5).f2) ((rd_T140 x1 x5).f0) ((rd_T140 x1 x5).f1) ((rd_T140 x1 x5).f2)).bind fun t103 => (if t103 = true then (laws_eqWordS.l0 k x0 x1 (wrap64 (x5 + 1))) else (some false))) else (none)) else (none)) else (some true)
def laws_eqWordS.f (k : Nat) (l0 : List (S140)) (l1 : List (S140)) : Option (Bool) := if (l0.length : Int) = (l1.length : Int) then (laws_eqWordS.l0 k l0 l1 0) else (some false)
def laws_eqWordS.T6 : Bool × List (List Nat × List Nat) := (true, [([], []), ([], []), ([0, 1], [0, 1]), ([2], [2]), ([], []), ([], []), ([4, 5], [4, 5]), ([6], [6]), ([3, 7], [3, 7]), ([8], [8])])
def laws_eqWordS.B6 : List Nat := [0, 0, 3, 7, 0, 0, 48, 112, 255, 511]
theorem laws_eqWordS.tab6 : rtab .any (opsOf Tryz.f109 6) = laws_eqWordS.T6 := by kernel_rfl
theorem laws_eqWordS.bits6 : waitsOk laws_eqWordS.T6.2 laws_eqWordS.B6 = true := by kernel_rfl
set_option maxHeartbeats 8000000 in
set_option maxRecDepth 100000 in
theorem laws_eqWordS.calls (k : Nat) (A0 : Option Addr) (c0 : Nat) (l0 : List (S140)) (A1 : Option Addr) (c1 : Nat) (l1 : List (S140)) (r : Bool) (w : World) (hr0 : Kd.C k140 w A0 l0.length l0) (hc0 : l0.length ≤ c0) (hr1 : Kd.C k140 w A1 l1.length l1) (hc1 : l1.length ≤ c1) (h : laws_eqWordS.f k l0 l1 = some r) :
    Calls Tryz.prog 109 #[.slice A0 l0.length c0, .slice A1 l1.length c1] w fun e w' => e = .returned (.bool r) ∧ Below w.heap.size w w' := by
  have hu140 := Tryz.underlying140
  have HR0 := aM hr0
  have HC0 := aM hc0
  clear hr0 hc0
  have HR1 := aM hr1
  have HC1 := aM hc1
  clear hr1 hc1
  have HB := aM (Below.refl w.heap.size w)
  have H := h
  unfold laws_eqWordS.f at H
  clear h
  go_enter Tryz.func109, Tryz.ntmps109
  by_cases c3 : (l0.length : Int) = (l1.length : Int)
  case neg =>
    rw [if_neg c3] at H
    obtain ⟨c3b0, c3b1⟩ := eqF c3
    have c3b2 : (l0.length == l1.length) = false := by first | simpa using c3 | (simp at c3 ⊢; omega)
    obtain rfl := sI H
    go_wp2
    go_ret
    exact ⟨rE, (hX HB.out)⟩
  rw [if_pos c3] at H
  obtain ⟨c3b0, c3b1⟩ := eqT c3
  have c3b2 : (l0.length == l1.length) = true := by first | simpa using c3 | (simp at c3 ⊢; omega)
  clear c3
  have H' := aM H
  clear H
  go_wp2
  go_loopg [5] k (fun kq v5 w' => ∃ (x5_1 : Int), v5 = .int .i64 x5_1 ∧ Aside0 (laws_eqWordS.l0 kq l0 l1 x5_1 = some r) ∧ Aside0 (kq ≤ k) ∧ Aside0 (Below w.heap.size w w'))
  case atStart => exact ⟨(0), rS, H', ⟨Nat.le_refl _⟩, ⟨(hX HB.out)⟩⟩
  case round =>
    clear H'
    try clear p2
    try clear c3
    try clear c3b0
    try clear c3b1
    try clear c3b2
    obtain ⟨x5_1, rfl, HA, HKy1, HB⟩ := hrel
    cases gk with
    | zero => exact absurd HA.out (by simp [laws_eqWordS.l0])
    | succ k1 =>
      have H := HA.out
      clear HA
      simp only [laws_eqWordS.l0] at H
      by_cases c4 : x5_1 < (l0.length : Int)
      case neg =>
        rw [if_neg c4] at H
        have c4b0 := decide_eq_false c4
        clear c4
        obtain rfl := sI H
        go_wp2
        go_ret
        exact ⟨rE, (hX HB.out)⟩
      rw [if_pos c4] at H
      have c4b0 := decide_eq_true c4
      clear c4
      replace H := ifP H; obtain ⟨c5, H⟩ := H
      have c5b0 := decide_eq_true c5
      clear c5
      replace H := ifP H; obtain ⟨c6, H⟩ := H
      have c6b0 := decide_eq_true c6
      clear c6
      replace H := bE H; obtain ⟨t103, A7, H⟩ := H
      try go_wp2
      replace HB := aM (below_drew1 HB.out)
      have px1 : 0 ≤ (x5_1 : Int) := odA
      have qx1 : x5_1 < (l0.length : Int) := odA
      obtain ⟨adx1, ex1, hxx1, hxx2, hxx3⟩ := at_T140 HR0.out x5_1 px1 qx1
      have hwx1 := hxx3
      have hwx2 := hxx2
      have hwx3 := hxx1
      cases ex1
      replace hxx1 := bc HB.out hxx1
      replace hxx2 := bc HB.out hxx2
      replace hxx3 := bc HB.out hxx3
      replace px1 := eq_true px1
      replace qx1 := eq_true qx1
      have px2 : 0 ≤ (x5_1 : Int) := odA
      have qx2 : x5_1 < (l1.length : Int) := odA
      obtain ⟨adx2, ex2, hxx4, hxx5, hxx6⟩ := at_T140 HR1.out x5_1 px2 qx2
      have hwx4 := hxx6
      have hwx5 := hxx5
      have hwx6 := hxx4
      cases ex2
      replace hxx4 := bc HB.out hxx4
      replace hxx5 := bc HB.out hxx5
      replace hxx6 := bc HB.out hxx6
      replace px2 := eq_true px2
      replace qx2 := eq_true qx2
      refine start_ (n := 10) (S := fun w' => w'.cell? (adx1.add ((x5_1).toNat * 3)) = some (.int .i64 ((rd_T140 l0 x5_1).f0)) ∧ w'.cell? ⟨(adx1.add ((x5_1).toNat * 3)).block, (adx1.add ((x5_1).toNat * 3)).off + 1, none⟩ = some (.int .i64 ((rd_T140 l0 x5_1).f1)) ∧ w'.cell? ⟨(adx1.add ((x5_1).toNat * 3)).block, (adx1.add ((x5_1).toNat * 3)).off + 2, none⟩ = some (.int .i64 ((rd_T140 l0 x5_1).f2)) ∧ w'.cell? (adx2.add ((x5_1).toNat * 3)) = some (.int .i64 ((rd_T140 l1 x5_1).f0)) ∧ w'.cell? ⟨(adx2.add ((x5_1).toNat * 3)).block, (adx2.add ((x5_1).toNat * 3)).off + 1, none⟩ = some (.int .i64 ((rd_T140 l1 x5_1).f1)) ∧ w'.cell? ⟨(adx2.add ((x5_1).toNat * 3)).block, (adx2.add ((x5_1).toNat * 3)).off + 2, none⟩ = some (.int .i64 ((rd_T140 l1 x5_1).f2))) (ds := []) (bm 10 0) (by kernel_rfl) rfl (by kernel_rfl) ⟨(bc HB.out hwx3 :), (bc HB.out hwx2 :), (bc HB.out hwx1 :), (bc HB.out hwx6 :), (bc HB.out hwx5 :), (bc HB.out hwx4 :)⟩ (fun hHeld => ?_); refine with_tabW laws_eqWordS.tab6 laws_eqWordS.bits6 (fun HT_ HW_ => ?_)
      generalize wr.drew = wx1 at HB hxx1 hxx2 hxx3 hxx4 hxx5 hxx6 hHeld ⊢
      refine pZ 0 17 (bm 10 1) HT_.out ?_
      refine pZ 1 18 (bm 10 3) HT_.out ?_
      refine pZ 2 19 (bm 10 7) HT_.out ?_
      refine pZ 4 21 (bm 10 23) HT_.out ?_
      refine pZ 5 22 (bm 10 55) HT_.out ?_
      refine pZ 6 23 (bm 10 119) HT_.out ?_
      refine tZ 3 20 (bm 10 127) HT_.out HW_.out hHeld ?_
      refine tZ 7 24 (bm 10 255) HT_.out HW_.out hHeld ?_
      by_cases c8 : t103 = true
      case neg =>
        replace c8 := Bool.eq_false_iff.mpr c8
        subst c8
        rw [if_neg nft] at H
        obtain rfl := sI H
        refine oZ 8 (some 25) (bm 10 511) HT_.out (fun K hK => ?_)
        refine goesN Tryz.func186 #[.agg #[.int .i64 ((rd_T140 l0 x5_1).f0), .int .i64 ((rd_T140 l0 x5_1).f1), .int .i64 ((rd_T140 l0 x5_1).f2)], .agg #[.int .i64 ((rd_T140 l1 x5_1).f0), .int .i64 ((rd_T140 l1 x5_1).f1), .int .i64 ((rd_T140 l1 x5_1).f2)]] ?_
        with_reducible refine (laws_eqWord.calls _ _ _ _ _ _ _ _ A7.out).mono ?_
        rintro e wx2 ⟨rfl, hb⟩
        refine ⟨_, rfl, ?_⟩
        replace HB := aS HB hb
        (try clear hb)
        (try clear hb2)
        (try clear hk)
        (try clear hi)
        refine hK.out _ _ ⟨(bc HB.out hwx3 :), (bc HB.out hwx2 :), (bc HB.out hwx1 :), (bc HB.out hwx6 :), (bc HB.out hwx5 :), (bc HB.out hwx4 :)⟩ (fun hHeld => ?_)
        clear hK K
        refine nZ 25 ?_
        refine pZ 9 26 (bm 10 1023) HT_.out ?_
        refine done_ (done_of HT_.out (by kernel_rfl)) ?_
        try go_wp2
        go_ret
        exact ⟨rE, (hX HB.out)⟩
      subst c8
      rw [if_pos rfl] at H
      have H' := aM H
      clear H
      refine oZ 8 (some 25) (bm 10 511) HT_.out (fun K hK => ?_)
      refine goesN Tryz.func186 #[.agg #[.int .i64 ((rd_T140 l0 x5_1).f0), .int .i64 ((rd_T140 l0 x5_1).f1), .int .i64 ((rd_T140 l0 x5_1).f2)], .agg #[.int .i64 ((rd_T140 l1 x5_1).f0), .int .i64 ((rd_T140 l1 x5_1).f1), .int .i64 ((rd_T140 l1 x5_1).f2)]] ?_
      with_reducible refine (laws_eqWord.calls _ _ _ _ _ _ _ _ A7.out).mono ?_
      rintro e wx2 ⟨rfl, hb⟩
      refine ⟨_, rfl, ?_⟩
      replace HB := aS HB hb
      (try clear hb)
      (try clear hb2)
      (try clear hk)
      (try clear hi)
      refine hK.out _ _ ⟨(bc HB.out hwx3 :), (bc HB.out hwx2 :), (bc HB.out hwx1 :), (bc HB.out hwx6 :), (bc HB.out hwx5 :), (bc HB.out hwx4 :)⟩ (fun hHeld => ?_)
      clear hK K
      refine nZ 25 ?_
      refine pZ 9 26 (bm 10 1023) HT_.out ?_
      refine done_ (done_of HT_.out (by kernel_rfl)) ?_
      try go_wp2
      go_roundg k1
      case measure => have := HKy1.out; omega
      case rel => exact ⟨(wrap64 (x5_1 + 1)), rS, H', ⟨by have := HKy1.out; omega⟩, ⟨(hX HB.out)⟩⟩
def laws_eqRes.f (k : Nat) (a0_0 : Int) (l0_1 : List Int) (a1_0 : Int) (l1_1 : List Int) : Option (Bool) := if a0_0 = a1_0 then ((laws_eqIntS.f k l0_1 l1_1).bind fun t103 => (if t103 = true then (some true) else (some false))) else (some false)
set_option maxHeartbeats 8000000 in
set_option maxRecDepth 100000 in
theorem laws_eqRes.calls (k : Nat) (a0_0 : Int) (A0_1 : Option Addr) (c0_1 : Nat) (l0_1 : List Int) (a1_0 : Int) (A1_1 : Option Addr) (c1_1 : Nat) (l1_1 : List Int) (r : Bool) (w : World) (hr0_1 : Kd.C (Kd.int .i64) w A0_1 l0_1.length l0_1) (hc0_1 : l0_1.length ≤ c0_1) (hr1_1 : Kd.C (Kd.int .i64) w A1_1 l1_1.length l1_1) (hc1_1 : l1_1.length ≤ c1_1) (h : laws_eqRes.f k a0_0 l0_1 a1_0 l1_1 = some r) :
    Calls Tryz.prog 190 #[.agg #[.int .i64 a0_0, .slice A0_1 l0_1.length c0_1], .agg #[.int .i64 a1_0, .slice A1_1 l1_1.length c1_1]] w fun e w' => e = .returned (.bool r) ∧ Below w.heap.size w w' := by
  have hu71 := Tryz.underlying71
  have HR0_1 := aM hr0_1
  have HC0_1 := aM hc0_1
  clear hr0_1 hc0_1
  have HR1_1 := aM hr1_1
  have HC1_1 := aM hc1_1
  clear hr1_1 hc1_1
  have HB := aM (Below.refl w.heap.size w)
  have H := h
  unfold laws_eqRes.f at H
  clear h
  go_enter Tryz.func190, Tryz.ntmps190
  go_wp2_with (first | (refine boxE 2 #[.int .i64 a0_0, .slice A0_1 l0_1.length c0_1] 71 ?_; intro gbz1 hg wz1 hbox hb; have BKz1 := aM (hbox); have GWz1 := aG hg HB; have GEz1 := aG hg HB; replace HB := aS HB hb; clear hb hbox hg) | (refine boxE 3 #[.int .i64 a1_0, .slice A1_1 l1_1.length c1_1] 71 ?_; intro gbz2 hg wz2 hbox hb; have BKz2 := aM (hbox); have GWz2 := aG hg HB; have GEz2 := aG hg HB; have NBz1 := aL hg BKz1; have NBz2 := aR hg BKz1; replace BKz1 := aB BKz1 hb; replace HB := aS HB hb; clear hb hbox hg; have hnbz1 := NBz1.out; have hncz1 := NBz2.out; obtain ⟨hczz1, hczz2, hfzz1, hfzz2⟩ := cZ2 BKz1.out; obtain ⟨hczz3, hczz4, hfzz3, hfzz4⟩ := cZ2 BKz2.out; refine Stop.out ?_))
  refine ⟨?_⟩
  by_cases c3 : a0_0 = a1_0
  case neg =>
    rw [if_neg c3] at H
    obtain ⟨c3b0, c3b1⟩ := eqF c3
    obtain rfl := sI H
    go_wp2
    go_ret
    exact ⟨rE, (hX HB.out)⟩
  rw [if_pos c3] at H
  obtain ⟨c3b0, c3b1⟩ := eqT c3
  clear c3
  replace H := bE H; obtain ⟨t103, A4, H⟩ := H
  by_cases c5 : t103 = true
  · subst c5
    rw [if_pos rfl] at H
    obtain rfl := sI H
    go_wp2_with (first | (refine goesM 53 14 Tryz.func53 #[.slice A0_1 l0_1.length c0_1, .slice A1_1 l1_1.length c1_1] ?_; refine (laws_eqIntS.calls _ _ _ _ _ _ _ _ _ (cC HR0_1.out HB.out) HC0_1.out (cC HR1_1.out HB.out) HC1_1.out A4.out).mono ?_; rintro e w' ⟨rfl, ⟨nd, rfl⟩⟩; refine ⟨_, rfl, ?_⟩))
    go_ret
    exact ⟨rE, (hX HB.out)⟩
  replace c5 := Bool.eq_false_iff.mpr c5
  subst c5
  rw [if_neg nft] at H
  obtain rfl := sI H
  go_wp2_with (first | (refine goesM 53 14 Tryz.func53 #[.slice A0_1 l0_1.length c0_1, .slice A1_1 l1_1.length c1_1] ?_; refine (laws_eqIntS.calls _ _ _ _ _ _ _ _ _ (cC HR0_1.out HB.out) HC0_1.out (cC HR1_1.out HB.out) HC1_1.out A4.out).mono ?_; rintro e w' ⟨rfl, ⟨nd, rfl⟩⟩; refine ⟨_, rfl, ?_⟩))
  go_ret
  exact ⟨rE, (hX HB.out)⟩
def laws_eqEntry.f (a0_0 : Int) (a0_1 : Int) (a0_2 : Int) (a1_0 : Int) (a1_1 : Int) (a1_2 : Int) : Option (Bool) := if a0_0 = a1_0 then (if a0_1 = a1_1 then (if a0_2 = a1_2 then (some true) else (some false)) else (some false)) else (some false)
set_option maxHeartbeats 8000000 in
set_option maxRecDepth 100000 in
theorem laws_eqEntry.calls (a0_0 : Int) (a0_1 : Int) (a0_2 : Int) (a1_0 : Int) (a1_1 : Int) (a1_2 : Int) (r : Bool) (w : World) (h : laws_eqEntry.f a0_0 a0_1 a0_2 a1_0 a1_1 a1_2 = some r) :
    Calls Tryz.prog 220 #[.agg #[.int .i64 a0_0, .int .i64 a0_1, .int .i64 a0_2], .agg #[.int .i64 a1_0, .int .i64 a1_1, .int .i64 a1_2]] w fun e w' => e = .returned (.bool r) ∧ Below w.heap.size w w' := by
  have hu165 := Tryz.underlying165
  have HB := aM (Below.refl w.heap.size w)
  have H := h
  unfold laws_eqEntry.f at H
  clear h
  go_enter Tryz.func220, Tryz.ntmps220
  go_wp2_with (first | (refine boxE 2 #[.int .i64 a0_0, .int .i64 a0_1, .int .i64 a0_2] 165 ?_; intro gbz1 hg wz1 hbox hb; have BKz1 := aM (hbox); have GWz1 := aG hg HB; have GEz1 := aG hg HB; replace HB := aS HB hb; clear hb hbox hg) | (refine boxE 3 #[.int .i64 a1_0, .int .i64 a1_1, .int .i64 a1_2] 165 ?_; intro gbz2 hg wz2 hbox hb; have BKz2 := aM (hbox); have GWz2 := aG hg HB; have GEz2 := aG hg HB; have NBz1 := aL hg BKz1; have NBz2 := aR hg BKz1; replace BKz1 := aB BKz1 hb; replace HB := aS HB hb; clear hb hbox hg; have hnbz1 := NBz1.out; have hncz1 := NBz2.out; obtain ⟨hczz1, hczz2, hczz3, hfzz1, hfzz2, hfzz3⟩ := cZ3 BKz1.out; obtain ⟨hczz4, hczz5, hczz6, hfzz4, hfzz5, hfzz6⟩ := cZ3 BKz2.out; refine Stop.out ?_))
  refine ⟨?_⟩
  by_cases c3 : a0_0 = a1_0
  case neg =>
    rw [if_neg c3] at H
    obtain ⟨c3b0, c3b1⟩ := eqF c3
    obtain rfl := sI H
    go_wp2
    go_ret
    exact ⟨rE, (hX HB.out)⟩
  rw [if_pos c3] at H
  obtain ⟨c3b0, c3b1⟩ := eqT c3
  clear c3
  by_cases c4 : a0_1 = a1_1
  case neg =>
    rw [if_neg c4] at H
    obtain ⟨c4b0, c4b1⟩ := eqF c4
    obtain rfl := sI H
    go_wp2
    go_ret
    exact ⟨rE, (hX HB.out)⟩
  rw [if_pos c4] at H
  obtain ⟨c4b0, c4b1⟩ := eqT c4
  clear c4
  by_cases c5 : a0_2 = a1_2
  case neg =>
    rw [if_neg c5] at H
    obtain ⟨c5b0, c5b1⟩ := eqF c5
    obtain rfl := sI H
    go_wp2
    go_ret
    exact ⟨rE, (hX HB.out)⟩
  rw [if_pos c5] at H
  obtain ⟨c5b0, c5b1⟩ := eqT c5
  clear c5
  obtain rfl := sI H
  go_wp2
  go_ret
  exact ⟨rE, (hX HB.out)⟩
def laws_eqEntryS.l0 : Nat → List (S165) → List (S165) → Int → Option (Bool)
  | 0, _, _, _ => none
  | k + 1, x0, x1, x5 => if x5 < (x0.length : Int) then (if 0 ≤ x5 then (if x5 < (x1.length : Int) then ((laws_eqEntry.f ((rd_T165 x0 x5).f0) ((rd_T165 x0 x5).f1) ((rd_T165 x0 x5).f2) ((rd_T165 x1 x5).f0) ((rd_T165 x1 x5).f1) ((rd_T165 x1 x5).f2)).bind fun t103 => (if t103 = true then (laws_eqEntryS.l0 k x0 x1 (wrap64 (x5 + 1))) else (some false))) else (none)) else (none)) else (some true)
def laws_eqEntryS.f (k : Nat) (l0 : List (S165)) (l1 : List (S165)) : Option (Bool) := if (l0.length : Int) = (l1.length : Int) then (laws_eqEntryS.l0 k l0 l1 0) else (some false)
def laws_eqEntryS.T6 : Bool × List (List Nat × List Nat) := (true, [([], []), ([], []), ([0, 1], [0, 1]), ([2], [2]), ([], []), ([], []), ([4, 5], [4, 5]), ([6], [6]), ([3, 7], [3, 7]), ([8], [8])])
def laws_eqEntryS.B6 : List Nat := [0, 0, 3, 7, 0, 0, 48, 112, 255, 511]
theorem laws_eqEntryS.tab6 : rtab .any (opsOf Tryz.f213 6) = laws_eqEntryS.T6 := by kernel_rfl
theorem laws_eqEntryS.bits6 : waitsOk laws_eqEntryS.T6.2 laws_eqEntryS.B6 = true := by kernel_rfl
set_option maxHeartbeats 8000000 in
set_option maxRecDepth 100000 in
theorem laws_eqEntryS.calls (k : Nat) (A0 : Option Addr) (c0 : Nat) (l0 : List (S165)) (A1 : Option Addr) (c1 : Nat) (l1 : List (S165)) (r : Bool) (w : World) (hr0 : Kd.C k165 w A0 l0.length l0) (hc0 : l0.length ≤ c0) (hr1 : Kd.C k165 w A1 l1.length l1) (hc1 : l1.length ≤ c1) (h : laws_eqEntryS.f k l0 l1 = some r) :
    Calls Tryz.prog 213 #[.slice A0 l0.length c0, .slice A1 l1.length c1] w fun e w' => e = .returned (.bool r) ∧ Below w.heap.size w w' := by
  have hu165 := Tryz.underlying165
  have HR0 := aM hr0
  have HC0 := aM hc0
  clear hr0 hc0
  have HR1 := aM hr1
  have HC1 := aM hc1
  clear hr1 hc1
  have HB := aM (Below.refl w.heap.size w)
  have H := h
  unfold laws_eqEntryS.f at H
  clear h
  go_enter Tryz.func213, Tryz.ntmps213
  by_cases c3 : (l0.length : Int) = (l1.length : Int)
  case neg =>
    rw [if_neg c3] at H
    obtain ⟨c3b0, c3b1⟩ := eqF c3
    have c3b2 : (l0.length == l1.length) = false := by first | simpa using c3 | (simp at c3 ⊢; omega)
    obtain rfl := sI H
    go_wp2
    go_ret
    exact ⟨rE, (hX HB.out)⟩
  rw [if_pos c3] at H
  obtain ⟨c3b0, c3b1⟩ := eqT c3
  have c3b2 : (l0.length == l1.length) = true := by first | simpa using c3 | (simp at c3 ⊢; omega)
  clear c3
  have H' := aM H
  clear H
  go_wp2
  go_loopg [5] k (fun kq v5 w' => ∃ (x5_1 : Int), v5 = .int .i64 x5_1 ∧ Aside0 (laws_eqEntryS.l0 kq l0 l1 x5_1 = some r) ∧ Aside0 (kq ≤ k) ∧ Aside0 (Below w.heap.size w w'))
  case atStart => exact ⟨(0), rS, H', ⟨Nat.le_refl _⟩, ⟨(hX HB.out)⟩⟩
  case round =>
    clear H'
    try clear p2
    try clear c3
    try clear c3b0
    try clear c3b1
    try clear c3b2
    obtain ⟨x5_1, rfl, HA, HKy1, HB⟩ := hrel
    cases gk with
    | zero => exact absurd HA.out (by simp [laws_eqEntryS.l0])
    | succ k1 =>
      have H := HA.out
      clear HA
      simp only [laws_eqEntryS.l0] at H
      by_cases c4 : x5_1 < (l0.length : Int)
      case neg =>
        rw [if_neg c4] at H
        have c4b0 := decide_eq_false c4
        clear c4
        obtain rfl := sI H
        go_wp2
        go_ret
        exact ⟨rE, (hX HB.out)⟩
      rw [if_pos c4] at H
      have c4b0 := decide_eq_true c4
      clear c4
      replace H := ifP H; obtain ⟨c5, H⟩ := H
      have c5b0 := decide_eq_true c5
      clear c5
      replace H := ifP H; obtain ⟨c6, H⟩ := H
      have c6b0 := decide_eq_true c6
      clear c6
      replace H := bE H; obtain ⟨t103, A7, H⟩ := H
      try go_wp2
      replace HB := aM (below_drew1 HB.out)
      have px1 : 0 ≤ (x5_1 : Int) := odA
      have qx1 : x5_1 < (l0.length : Int) := odA
      obtain ⟨adx1, ex1, hxx1, hxx2, hxx3⟩ := at_T165 HR0.out x5_1 px1 qx1
      have hwx1 := hxx3
      have hwx2 := hxx2
      have hwx3 := hxx1
      cases ex1
      replace hxx1 := bc HB.out hxx1
      replace hxx2 := bc HB.out hxx2
      replace hxx3 := bc HB.out hxx3
      replace px1 := eq_true px1
      replace qx1 := eq_true qx1
      have px2 : 0 ≤ (x5_1 : Int) := odA
      have qx2 : x5_1 < (l1.length : Int) := odA
      obtain ⟨adx2, ex2, hxx4, hxx5, hxx6⟩ := at_T165 HR1.out x5_1 px2 qx2
      have hwx4 := hxx6
      have hwx5 := hxx5
      have hwx6 := hxx4
      cases ex2
      replace hxx4 := bc HB.out hxx4
      replace hxx5 := bc HB.out hxx5
      replace hxx6 := bc HB.out hxx6
      replace px2 := eq_true px2
      replace qx2 := eq_true qx2
      refine start_ (n := 10) (S := fun w' => w'.cell? (adx1.add ((x5_1).toNat * 3)) = some (.int .i64 ((rd_T165 l0 x5_1).f0)) ∧ w'.cell? ⟨(adx1.add ((x5_1).toNat * 3)).block, (adx1.add ((x5_1).toNat * 3)).off + 1, none⟩ = some (.int .i64 ((rd_T165 l0 x5_1).f1)) ∧ w'.cell? ⟨(adx1.add ((x5_1).toNat * 3)).block, (adx1.add ((x5_1).toNat * 3)).off + 2, none⟩ = some (.int .i64 ((rd_T165 l0 x5_1).f2)) ∧ w'.cell? (adx2.add ((x5_1).toNat * 3)) = some (.int .i64 ((rd_T165 l1 x5_1).f0)) ∧ w'.cell? ⟨(adx2.add ((x5_1).toNat * 3)).block, (adx2.add ((x5_1).toNat * 3)).off + 1, none⟩ = some (.int .i64 ((rd_T165 l1 x5_1).f1)) ∧ w'.cell? ⟨(adx2.add ((x5_1).toNat * 3)).block, (adx2.add ((x5_1).toNat * 3)).off + 2, none⟩ = some (.int .i64 ((rd_T165 l1 x5_1).f2))) (ds := []) (bm 10 0) (by kernel_rfl) rfl (by kernel_rfl) ⟨(bc HB.out hwx3 :), (bc HB.out hwx2 :), (bc HB.out hwx1 :), (bc HB.out hwx6 :), (bc HB.out hwx5 :), (bc HB.out hwx4 :)⟩ (fun hHeld => ?_); refine with_tabW laws_eqEntryS.tab6 laws_eqEntryS.bits6 (fun HT_ HW_ => ?_)
      generalize wr.drew = wx1 at HB hxx1 hxx2 hxx3 hxx4 hxx5 hxx6 hHeld ⊢
      refine pZ 0 17 (bm 10 1) HT_.out ?_
      refine pZ 1 18 (bm 10 3) HT_.out ?_
      refine pZ 2 19 (bm 10 7) HT_.out ?_
      refine pZ 4 21 (bm 10 23) HT_.out ?_
      refine pZ 5 22 (bm 10 55) HT_.out ?_
      refine pZ 6 23 (bm 10 119) HT_.out ?_
      refine tZ 3 20 (bm 10 127) HT_.out HW_.out hHeld ?_
      refine tZ 7 24 (bm 10 255) HT_.out HW_.out hHeld ?_
      by_cases c8 : t103 = true
      case neg =>
        replace c8 := Bool.eq_false_iff.mpr c8
        subst c8
        rw [if_neg nft] at H
        obtain rfl := sI H
        refine oZ 8 (some 25) (bm 10 511) HT_.out (fun K hK => ?_)
        refine goesN Tryz.func220 #[.agg #[.int .i64 ((rd_T165 l0 x5_1).f0), .int .i64 ((rd_T165 l0 x5_1).f1), .int .i64 ((rd_T165 l0 x5_1).f2)], .agg #[.int .i64 ((rd_T165 l1 x5_1).f0), .int .i64 ((rd_T165 l1 x5_1).f1), .int .i64 ((rd_T165 l1 x5_1).f2)]] ?_
        with_reducible refine (laws_eqEntry.calls _ _ _ _ _ _ _ _ A7.out).mono ?_
        rintro e wx2 ⟨rfl, hb⟩
        refine ⟨_, rfl, ?_⟩
        replace HB := aS HB hb
        (try clear hb)
        (try clear hb2)
        (try clear hk)
        (try clear hi)
        refine hK.out _ _ ⟨(bc HB.out hwx3 :), (bc HB.out hwx2 :), (bc HB.out hwx1 :), (bc HB.out hwx6 :), (bc HB.out hwx5 :), (bc HB.out hwx4 :)⟩ (fun hHeld => ?_)
        clear hK K
        refine nZ 25 ?_
        refine pZ 9 26 (bm 10 1023) HT_.out ?_
        refine done_ (done_of HT_.out (by kernel_rfl)) ?_
        try go_wp2
        go_ret
        exact ⟨rE, (hX HB.out)⟩
      subst c8
      rw [if_pos rfl] at H
      have H' := aM H
      clear H
      refine oZ 8 (some 25) (bm 10 511) HT_.out (fun K hK => ?_)
      refine goesN Tryz.func220 #[.agg #[.int .i64 ((rd_T165 l0 x5_1).f0), .int .i64 ((rd_T165 l0 x5_1).f1), .int .i64 ((rd_T165 l0 x5_1).f2)], .agg #[.int .i64 ((rd_T165 l1 x5_1).f0), .int .i64 ((rd_T165 l1 x5_1).f1), .int .i64 ((rd_T165 l1 x5_1).f2)]] ?_
      with_reducible refine (laws_eqEntry.calls _ _ _ _ _ _ _ _ A7.out).mono ?_
      rintro e wx2 ⟨rfl, hb⟩
      refine ⟨_, rfl, ?_⟩
      replace HB := aS HB hb
      (try clear hb)
      (try clear hb2)
      (try clear hk)
      (try clear hi)
      refine hK.out _ _ ⟨(bc HB.out hwx3 :), (bc HB.out hwx2 :), (bc HB.out hwx1 :), (bc HB.out hwx6 :), (bc HB.out hwx5 :), (bc HB.out hwx4 :)⟩ (fun hHeld => ?_)
      clear hK K
      refine nZ 25 ?_
      refine pZ 9 26 (bm 10 1023) HT_.out ?_
      refine done_ (done_of HT_.out (by kernel_rfl)) ?_
      try go_wp2
      go_roundg k1
      case measure => have := HKy1.out; omega
      case rel => exact ⟨(wrap64 (x5_1 + 1)), rS, H', ⟨by have := HKy1.out; omega⟩, ⟨(hX HB.out)⟩⟩
def laws_eqDesc.f (k : Nat) (a0_0 : Int) (a0_1 : Int) (l0_2 : List (S165)) (a0_3 : Int) (l0_4 : List Int) (a1_0 : Int) (a1_1 : Int) (l1_2 : List (S165)) (a1_3 : Int) (l1_4 : List Int) : Option (Bool) := if a0_0 = a1_0 then (if a0_1 = a1_1 then ((laws_eqEntryS.f k l0_2 l1_2).bind fun t103 => (if t103 = true then ((laws_eqRes.f k a0_3 l0_4 a1_3 l1_4).bind fun t104 => (if t104 = true then (some true) else (some false))) else (some false))) else (some false)) else (some false)
set_option maxHeartbeats 8000000 in
set_option maxRecDepth 100000 in
theorem laws_eqDesc.calls (k : Nat) (a0_0 : Int) (a0_1 : Int) (A0_2 : Option Addr) (c0_2 : Nat) (l0_2 : List (S165)) (a0_3 : Int) (A0_4 : Option Addr) (c0_4 : Nat) (l0_4 : List Int) (a1_0 : Int) (a1_1 : Int) (A1_2 : Option Addr) (c1_2 : Nat) (l1_2 : List (S165)) (a1_3 : Int) (A1_4 : Option Addr) (c1_4 : Nat) (l1_4 : List Int) (r : Bool) (w : World) (hr0_2 : Kd.C k165 w A0_2 l0_2.length l0_2) (hc0_2 : l0_2.length ≤ c0_2) (hr0_4 : Kd.C (Kd.int .i64) w A0_4 l0_4.length l0_4) (hc0_4 : l0_4.length ≤ c0_4) (hr1_2 : Kd.C k165 w A1_2 l1_2.length l1_2) (hc1_2 : l1_2.length ≤ c1_2) (hr1_4 : Kd.C (Kd.int .i64) w A1_4 l1_4.length l1_4) (hc1_4 : l1_4.length ≤ c1_4) (h : laws_eqDesc.f k a0_0 a0_1 l0_2 a0_3 l0_4 a1_0 a1_1 l1_2 a1_3 l1_4 = some r) :
    Calls Tryz.prog 187 #[.agg #[.int .i64 a0_0, .int .i64 a0_1, .slice A0_2 l0_2.length c0_2, .int .i64 a0_3, .slice A0_4 l0_4.length c0_4], .agg #[.int .i64 a1_0, .int .i64 a1_1, .slice A1_2 l1_2.length c1_2, .int .i64 a1_3, .slice A1_4 l1_4.length c1_4]] w fun e w' => e = .returned (.bool r) ∧ Below w.heap.size w w' := by
  have hu162 := Tryz.underlying162
  have hu71 := Tryz.underlying71
  have HR0_2 := aM hr0_2
  have HC0_2 := aM hc0_2
  clear hr0_2 hc0_2
  have HR0_4 := aM hr0_4
  have HC0_4 := aM hc0_4
  clear hr0_4 hc0_4
  have HR1_2 := aM hr1_2
  have HC1_2 := aM hc1_2
  clear hr1_2 hc1_2
  have HR1_4 := aM hr1_4
  have HC1_4 := aM hc1_4
  clear hr1_4 hc1_4
  have HB := aM (Below.refl w.heap.size w)
  have H := h
  unfold laws_eqDesc.f at H
  clear h
  go_enter Tryz.func187, Tryz.ntmps187
  go_wp2_with (first | (refine boxE 2 #[.int .i64 a0_0, .int .i64 a0_1, .slice A0_2 l0_2.length c0_2, .int .i64 a0_3, .slice A0_4 l0_4.length c0_4] 162 ?_; intro gbz1 hg wz1 hbox hb; have BKz1 := aM (hbox); have GWz1 := aG hg HB; have GEz1 := aG hg HB; replace HB := aS HB hb; clear hb hbox hg) | (refine boxE 3 #[.int .i64 a1_0, .int .i64 a1_1, .slice A1_2 l1_2.length c1_2, .int .i64 a1_3, .slice A1_4 l1_4.length c1_4] 162 ?_; intro gbz2 hg wz2 hbox hb; have BKz2 := aM (hbox); have GWz2 := aG hg HB; have GEz2 := aG hg HB; have NBz1 := aL hg BKz1; have NBz2 := aR hg BKz1; replace BKz1 := aB BKz1 hb; replace HB := aS HB hb; clear hb hbox hg; have hnbz1 := NBz1.out; have hncz1 := NBz2.out; obtain ⟨hczz1, hczz2, hczz3, hczz4, hczz5, hfzz1, hfzz2, hfzz3, hfzz4, hfzz5⟩ := cZ5 BKz1.out; obtain ⟨hczz6, hczz7, hczz8, hczz9, hczz10, hfzz6, hfzz7, hfzz8, hfzz9, hfzz10⟩ := cZ5 BKz2.out; refine Stop.out ?_))
  refine ⟨?_⟩
  by_cases c3 : a0_0 = a1_0
  case neg =>
    rw [if_neg c3] at H
    obtain ⟨c3b0, c3b1⟩ := eqF c3
    obtain rfl := sI H
    go_wp2
    go_ret
    exact ⟨rE, (hX HB.out)⟩
  rw [if_pos c3] at H
  obtain ⟨c3b0, c3b1⟩ := eqT c3
  clear c3
  by_cases c4 : a0_1 = a1_1
  case neg =>
    rw [if_neg c4] at H
    obtain ⟨c4b0, c4b1⟩ := eqF c4
    obtain rfl := sI H
    go_wp2
    go_ret
    exact ⟨rE, (hX HB.out)⟩
  rw [if_pos c4] at H
  obtain ⟨c4b0, c4b1⟩ := eqT c4
  clear c4
  replace H := bE H; obtain ⟨t103, A5, H⟩ := H
  by_cases c6 : t103 = true
  case neg =>
    replace c6 := Bool.eq_false_iff.mpr c6
    subst c6
    rw [if_neg nft] at H
    obtain rfl := sI H
    go_wp2_with (first | (refine goesM 213 19 Tryz.func213 #[.slice A0_2 l0_2.length c0_2, .slice A1_2 l1_2.length c1_2] ?_; refine (laws_eqEntryS.calls _ _ _ _ _ _ _ _ _ (cC HR0_2.out HB.out) HC0_2.out (cC HR1_2.out HB.out) HC1_2.out A5.out).mono ?_; rintro e wz3 ⟨rfl, hb⟩; refine ⟨_, rfl, ?_⟩; replace BKz1 := aB BKz1 hb; replace BKz2 := aB BKz2 hb; replace HB := aS HB hb; clear hb))
    go_ret
    exact ⟨rE, (hX HB.out)⟩
  subst c6
  rw [if_pos rfl] at H
  replace H := bE H; obtain ⟨t104, A7, H⟩ := H
  go_wp2_with (first | (refine goesM 213 19 Tryz.func213 #[.slice A0_2 l0_2.length c0_2, .slice A1_2 l1_2.length c1_2] ?_; refine (laws_eqEntryS.calls _ _ _ _ _ _ _ _ _ (cC HR0_2.out HB.out) HC0_2.out (cC HR1_2.out HB.out) HC1_2.out A5.out).mono ?_; rintro e wz3 ⟨rfl, hb⟩; refine ⟨_, rfl, ?_⟩; replace BKz1 := aB BKz1 hb; replace BKz2 := aB BKz2 hb; replace HB := aS HB hb; clear hb; obtain ⟨hczz11, hczz12, hczz13, hczz14, hczz15, hfzz11, hfzz12, hfzz13, hfzz14, hfzz15⟩ := cZ5 BKz1.out; obtain ⟨hczz16, hczz17, hczz18, hczz19, hczz20, hfzz16, hfzz17, hfzz18, hfzz19, hfzz20⟩ := cZ5 BKz2.out; refine Stop.out ?_))
  refine ⟨?_⟩
  by_cases c8 : t104 = true
  · subst c8
    rw [if_pos rfl] at H
    obtain rfl := sI H
    go_wp2_with (first | (refine goesM 190 25 Tryz.func190 #[.agg #[.int .i64 a0_3, .slice A0_4 l0_4.length c0_4], .agg #[.int .i64 a1_3, .slice A1_4 l1_4.length c1_4]] ?_; refine (laws_eqRes.calls _ _ _ _ _ _ _ _ _ _ _ (cC HR0_4.out HB.out) HC0_4.out (cC HR1_4.out HB.out) HC1_4.out A7.out).mono ?_; rintro e wz4 ⟨rfl, hb⟩; refine ⟨_, rfl, ?_⟩; replace BKz1 := aB BKz1 hb; replace BKz2 := aB BKz2 hb; replace HB := aS HB hb; clear hb))
    go_ret
    exact ⟨rE, (hX HB.out)⟩
  replace c8 := Bool.eq_false_iff.mpr c8
  subst c8
  rw [if_neg nft] at H
  obtain rfl := sI H
  go_wp2_with (first | (refine goesM 190 25 Tryz.func190 #[.agg #[.int .i64 a0_3, .slice A0_4 l0_4.length c0_4], .agg #[.int .i64 a1_3, .slice A1_4 l1_4.length c1_4]] ?_; refine (laws_eqRes.calls _ _ _ _ _ _ _ _ _ _ _ (cC HR0_4.out HB.out) HC0_4.out (cC HR1_4.out HB.out) HC1_4.out A7.out).mono ?_; rintro e wz4 ⟨rfl, hb⟩; refine ⟨_, rfl, ?_⟩; replace BKz1 := aB BKz1 hb; replace BKz2 := aB BKz2 hb; replace HB := aS HB hb; clear hb))
  go_ret
  exact ⟨rE, (hX HB.out)⟩
def laws_eqDescS.l0 : Nat → List (S162) → List (S162) → Int → Option (Bool)
  | 0, _, _, _ => none
  | k + 1, x0, x1, x5 => if x5 < (x0.length : Int) then (if 0 ≤ x5 then (if x5 < (x1.length : Int) then ((laws_eqDesc.f k ((rd_T162 x0 x5).f0) ((rd_T162 x0 x5).f1) ((rd_T162 x0 x5).f2) ((rd_T162 x0 x5).f3.f0) ((rd_T162 x0 x5).f3.f1) ((rd_T162 x1 x5).f0) ((rd_T162 x1 x5).f1) ((rd_T162 x1 x5).f2) ((rd_T162 x1 x5).f3.f0) ((rd_T162 x1 x5).f3.f1)).bind fun t103 => (if t103 = true then (laws_eqDescS.l0 k x0 x1 (wrap64 (x5 + 1))) else (some false))) else (none)) else (none)) else (some true)
def laws_eqDescS.f (k : Nat) (l0 : List (S162)) (l1 : List (S162)) : Option (Bool) := if (l0.length : Int) = (l1.length : Int) then (laws_eqDescS.l0 k l0 l1 0) else (some false)
def laws_eqDescS.T6 : Bool × List (List Nat × List Nat) := (true, [([], []), ([], []), ([0, 1], [0, 1]), ([2], [2]), ([], []), ([], []), ([4, 5], [4, 5]), ([6], [6]), ([3, 7], [3, 7]), ([8], [8])])
def laws_eqDescS.B6 : List Nat := [0, 0, 3, 7, 0, 0, 48, 112, 255, 511]
theorem laws_eqDescS.tab6 : rtab .any (opsOf Tryz.f110 6) = laws_eqDescS.T6 := by kernel_rfl
theorem laws_eqDescS.bits6 : waitsOk laws_eqDescS.T6.2 laws_eqDescS.B6 = true := by kernel_rfl
set_option maxHeartbeats 8000000 in
set_option maxRecDepth 100000 in
theorem laws_eqDescS.calls (k : Nat) (A0 : Option Addr) (c0 : Nat) (l0 : List (S162)) (A1 : Option Addr) (c1 : Nat) (l1 : List (S162)) (r : Bool) (w : World) (hr0 : Kd.C k162 w A0 l0.length l0) (hc0 : l0.length ≤ c0) (hr1 : Kd.C k162 w A1 l1.length l1) (hc1 : l1.length ≤ c1) (h : laws_eqDescS.f k l0 l1 = some r) :
    Calls Tryz.prog 110 #[.slice A0 l0.length c0, .slice A1 l1.length c1] w fun e w' => e = .returned (.bool r) ∧ Below w.heap.size w w' := by
  have hu162 := Tryz.underlying162
  have HR0 := aM hr0
  have HC0 := aM hc0
  clear hr0 hc0
  have HR1 := aM hr1
  have HC1 := aM hc1
  clear hr1 hc1
  have HB := aM (Below.refl w.heap.size w)
  have H := h
  unfold laws_eqDescS.f at H
  clear h
  go_enter Tryz.func110, Tryz.ntmps110
  by_cases c3 : (l0.length : Int) = (l1.length : Int)
  case neg =>
    rw [if_neg c3] at H
    obtain ⟨c3b0, c3b1⟩ := eqF c3
    have c3b2 : (l0.length == l1.length) = false := by first | simpa using c3 | (simp at c3 ⊢; omega)
    obtain rfl := sI H
    go_wp2
    go_ret
    exact ⟨rE, (hX HB.out)⟩
  rw [if_pos c3] at H
  obtain ⟨c3b0, c3b1⟩ := eqT c3
  have c3b2 : (l0.length == l1.length) = true := by first | simpa using c3 | (simp at c3 ⊢; omega)
  clear c3
  have H' := aM H
  clear H
  go_wp2
  go_loopg [5] k (fun kq v5 w' => ∃ (x5_1 : Int), v5 = .int .i64 x5_1 ∧ Aside0 (laws_eqDescS.l0 kq l0 l1 x5_1 = some r) ∧ Aside0 (kq ≤ k) ∧ Aside0 (Below w.heap.size w w'))
  case atStart => exact ⟨(0), rS, H', ⟨Nat.le_refl _⟩, ⟨(hX HB.out)⟩⟩
  case round =>
    clear H'
    try clear p2
    try clear c3
    try clear c3b0
    try clear c3b1
    try clear c3b2
    obtain ⟨x5_1, rfl, HA, HKy1, HB⟩ := hrel
    cases gk with
    | zero => exact absurd HA.out (by simp [laws_eqDescS.l0])
    | succ k1 =>
      have H := HA.out
      clear HA
      simp only [laws_eqDescS.l0] at H
      by_cases c4 : x5_1 < (l0.length : Int)
      case neg =>
        rw [if_neg c4] at H
        have c4b0 := decide_eq_false c4
        clear c4
        obtain rfl := sI H
        go_wp2
        go_ret
        exact ⟨rE, (hX HB.out)⟩
      rw [if_pos c4] at H
      have c4b0 := decide_eq_true c4
      clear c4
      replace H := ifP H; obtain ⟨c5, H⟩ := H
      have c5b0 := decide_eq_true c5
      clear c5
      replace H := ifP H; obtain ⟨c6, H⟩ := H
      have c6b0 := decide_eq_true c6
      clear c6
      replace H := bE H; obtain ⟨t103, A7, H⟩ := H
      try go_wp2
      replace HB := aM (below_drew1 HB.out)
      have px1 : 0 ≤ (x5_1 : Int) := odA
      have qx1 : x5_1 < (l0.length : Int) := odA
      obtain ⟨adx1, Ax1, cx1, Ax2, cx2, ex1, hxx1, hxx2, hxx3, hxx4, hxx5, hlx1, hix1, hlx2, hix2⟩ := at_T162 HR0.out x5_1 px1 qx1
      have hwx1 := hxx5
      have hwx2 := hxx4
      have hwx3 := hxx3
      have hwx4 := hxx2
      have hwx5 := hxx1
      cases ex1
      replace hxx1 := bc HB.out hxx1
      replace hxx2 := bc HB.out hxx2
      replace hxx3 := bc HB.out hxx3
      replace hxx4 := bc HB.out hxx4
      replace hxx5 := bc HB.out hxx5
      have HRx1 := aM hix1
      have HCx1 := aM hlx1
      clear hix1 hlx1
      have HRx2 := aM hix2
      have HCx2 := aM hlx2
      clear hix2 hlx2
      replace px1 := eq_true px1
      replace qx1 := eq_true qx1
      have px2 : 0 ≤ (x5_1 : Int) := odA
      have qx2 : x5_1 < (l1.length : Int) := odA
      obtain ⟨adx2, Ax3, cx3, Ax4, cx4, ex2, hxx6, hxx7, hxx8, hxx9, hxx10, hlx3, hix3, hlx4, hix4⟩ := at_T162 HR1.out x5_1 px2 qx2
      have hwx6 := hxx10
      have hwx7 := hxx9
      have hwx8 := hxx8
      have hwx9 := hxx7
      have hwx10 := hxx6
      cases ex2
      replace hxx6 := bc HB.out hxx6
      replace hxx7 := bc HB.out hxx7
      replace hxx8 := bc HB.out hxx8
      replace hxx9 := bc HB.out hxx9
      replace hxx10 := bc HB.out hxx10
      have HRx3 := aM hix3
      have HCx3 := aM hlx3
      clear hix3 hlx3
      have HRx4 := aM hix4
      have HCx4 := aM hlx4
      clear hix4 hlx4
      replace px2 := eq_true px2
      replace qx2 := eq_true qx2
      refine start_ (n := 10) (S := fun w' => w'.cell? (adx1.add ((x5_1).toNat * 5)) = some (.int .i64 ((rd_T162 l0 x5_1).f0)) ∧ w'.cell? ⟨(adx1.add ((x5_1).toNat * 5)).block, (adx1.add ((x5_1).toNat * 5)).off + 1, none⟩ = some (.int .i64 ((rd_T162 l0 x5_1).f1)) ∧ w'.cell? ⟨(adx1.add ((x5_1).toNat * 5)).block, (adx1.add ((x5_1).toNat * 5)).off + 2, none⟩ = some (.slice Ax1 ((rd_T162 l0 x5_1).f2).length cx1) ∧ w'.cell? ⟨(adx1.add ((x5_1).toNat * 5)).block, (adx1.add ((x5_1).toNat * 5)).off + 3, none⟩ = some (.int .i64 ((rd_T162 l0 x5_1).f3.f0)) ∧ w'.cell? ⟨(adx1.add ((x5_1).toNat * 5)).block, (adx1.add ((x5_1).toNat * 5)).off + 4, none⟩ = some (.slice Ax2 ((rd_T162 l0 x5_1).f3.f1).length cx2) ∧ w'.cell? (adx2.add ((x5_1).toNat * 5)) = some (.int .i64 ((rd_T162 l1 x5_1).f0)) ∧ w'.cell? ⟨(adx2.add ((x5_1).toNat * 5)).block, (adx2.add ((x5_1).toNat * 5)).off + 1, none⟩ = some (.int .i64 ((rd_T162 l1 x5_1).f1)) ∧ w'.cell? ⟨(adx2.add ((x5_1).toNat * 5)).block, (adx2.add ((x5_1).toNat * 5)).off + 2, none⟩ = some (.slice Ax3 ((rd_T162 l1 x5_1).f2).length cx3) ∧ w'.cell? ⟨(adx2.add ((x5_1).toNat * 5)).block, (adx2.add ((x5_1).toNat * 5)).off + 3, none⟩ = some (.int .i64 ((rd_T162 l1 x5_1).f3.f0)) ∧ w'.cell? ⟨(adx2.add ((x5_1).toNat * 5)).block, (adx2.add ((x5_1).toNat * 5)).off + 4, none⟩ = some (.slice Ax4 ((rd_T162 l1 x5_1).f3.f1).length cx4)) (ds := []) (bm 10 0) (by kernel_rfl) rfl (by kernel_rfl) ⟨(bc HB.out hwx5 :), (bc HB.out hwx4 :), (bc HB.out hwx3 :), (bc HB.out hwx2 :), (bc HB.out hwx1 :), (bc HB.out hwx10 :), (bc HB.out hwx9 :), (bc HB.out hwx8 :), (bc HB.out hwx7 :), (bc HB.out hwx6 :)⟩ (fun hHeld => ?_); refine with_tabW laws_eqDescS.tab6 laws_eqDescS.bits6 (fun HT_ HW_ => ?_)
      generalize wr.drew = wx1 at HB HRx1 HRx2 HRx3 HRx4 hxx1 hxx2 hxx3 hxx4 hxx5 hxx6 hxx7 hxx8 hxx9 hxx10 hHeld ⊢
      refine pZ 0 17 (bm 10 1) HT_.out ?_
      refine pZ 1 18 (bm 10 3) HT_.out ?_
      refine pZ 2 19 (bm 10 7) HT_.out ?_
      refine pZ 4 21 (bm 10 23) HT_.out ?_
      refine pZ 5 22 (bm 10 55) HT_.out ?_
      refine pZ 6 23 (bm 10 119) HT_.out ?_
      refine tZ 3 20 (bm 10 127) HT_.out HW_.out hHeld ?_
      refine tZ 7 24 (bm 10 255) HT_.out HW_.out hHeld ?_
      by_cases c8 : t103 = true
      case neg =>
        replace c8 := Bool.eq_false_iff.mpr c8
        subst c8
        rw [if_neg nft] at H
        obtain rfl := sI H
        refine oZ 8 (some 25) (bm 10 511) HT_.out (fun K hK => ?_)
        refine goesN Tryz.func187 #[.agg #[.int .i64 ((rd_T162 l0 x5_1).f0), .int .i64 ((rd_T162 l0 x5_1).f1), .slice Ax1 ((rd_T162 l0 x5_1).f2).length cx1, .int .i64 ((rd_T162 l0 x5_1).f3.f0), .slice Ax2 ((rd_T162 l0 x5_1).f3.f1).length cx2], .agg #[.int .i64 ((rd_T162 l1 x5_1).f0), .int .i64 ((rd_T162 l1 x5_1).f1), .slice Ax3 ((rd_T162 l1 x5_1).f2).length cx3, .int .i64 ((rd_T162 l1 x5_1).f3.f0), .slice Ax4 ((rd_T162 l1 x5_1).f3.f1).length cx4]] ?_
        with_reducible refine (laws_eqDesc.calls k1 ((rd_T162 l0 x5_1).f0) ((rd_T162 l0 x5_1).f1) _ _ ((rd_T162 l0 x5_1).f2) ((rd_T162 l0 x5_1).f3.f0) _ _ ((rd_T162 l0 x5_1).f3.f1) ((rd_T162 l1 x5_1).f0) ((rd_T162 l1 x5_1).f1) _ _ ((rd_T162 l1 x5_1).f2) ((rd_T162 l1 x5_1).f3.f0) _ _ ((rd_T162 l1 x5_1).f3.f1) false _ ?side1 ?side2 ?side3 ?side4 ?side5 ?side6 ?side7 ?side8 A7.out).mono ?_
        (case side1 => repeat (first | exact (Kd.C_below HRx1.out HB.out) | (with_reducible refine Kd.C_alloc ?_ _) | (with_reducible refine Kd.C_drewN ?_ _) | (with_reducible refine Kd.C_drew ?_)))
        (case side2 => exact HCx1.out)
        (case side3 => repeat (first | exact (Kd.C_below HRx2.out HB.out) | (with_reducible refine Kd.C_alloc ?_ _) | (with_reducible refine Kd.C_drewN ?_ _) | (with_reducible refine Kd.C_drew ?_)))
        (case side4 => exact HCx2.out)
        (case side5 => repeat (first | exact (Kd.C_below HRx3.out HB.out) | (with_reducible refine Kd.C_alloc ?_ _) | (with_reducible refine Kd.C_drewN ?_ _) | (with_reducible refine Kd.C_drew ?_)))
        (case side6 => exact HCx3.out)
        (case side7 => repeat (first | exact (Kd.C_below HRx4.out HB.out) | (with_reducible refine Kd.C_alloc ?_ _) | (with_reducible refine Kd.C_drewN ?_ _) | (with_reducible refine Kd.C_drew ?_)))
        (case side8 => exact HCx4.out)
        rintro e wx2 ⟨rfl, hb⟩
        refine ⟨_, rfl, ?_⟩
        replace HB := aS HB hb
        (try clear hb)
        (try clear hb2)
        (try clear hk)
        (try clear hi)
        refine hK.out _ _ ⟨(bc HB.out hwx5 :), (bc HB.out hwx4 :), (bc HB.out hwx3 :), (bc HB.out hwx2 :), (bc HB.out hwx1 :), (bc HB.out hwx10 :), (bc HB.out hwx9 :), (bc HB.out hwx8 :), (bc HB.out hwx7 :), (bc HB.out hwx6 :)⟩ (fun hHeld => ?_)
        clear hK K
        refine nZ 25 ?_
        refine pZ 9 26 (bm 10 1023) HT_.out ?_
        refine done_ (done_of HT_.out (by kernel_rfl)) ?_
        try go_wp2
        go_ret
        exact ⟨rE, (hX HB.out)⟩
      subst c8
      rw [if_pos rfl] at H
      have H' := aM H
      clear H
      refine oZ 8 (some 25) (bm 10 511) HT_.out (fun K hK => ?_)
      refine goesN Tryz.func187 #[.agg #[.int .i64 ((rd_T162 l0 x5_1).f0), .int .i64 ((rd_T162 l0 x5_1).f1), .slice Ax1 ((rd_T162 l0 x5_1).f2).length cx1, .int .i64 ((rd_T162 l0 x5_1).f3.f0), .slice Ax2 ((rd_T162 l0 x5_1).f3.f1).length cx2], .agg #[.int .i64 ((rd_T162 l1 x5_1).f0), .int .i64 ((rd_T162 l1 x5_1).f1), .slice Ax3 ((rd_T162 l1 x5_1).f2).length cx3, .int .i64 ((rd_T162 l1 x5_1).f3.f0), .slice Ax4 ((rd_T162 l1 x5_1).f3.f1).length cx4]] ?_
      with_reducible refine (laws_eqDesc.calls k1 ((rd_T162 l0 x5_1).f0) ((rd_T162 l0 x5_1).f1) _ _ ((rd_T162 l0 x5_1).f2) ((rd_T162 l0 x5_1).f3.f0) _ _ ((rd_T162 l0 x5_1).f3.f1) ((rd_T162 l1 x5_1).f0) ((rd_T162 l1 x5_1).f1) _ _ ((rd_T162 l1 x5_1).f2) ((rd_T162 l1 x5_1).f3.f0) _ _ ((rd_T162 l1 x5_1).f3.f1) true _ ?side1 ?side2 ?side3 ?side4 ?side5 ?side6 ?side7 ?side8 A7.out).mono ?_
      (case side1 => repeat (first | exact (Kd.C_below HRx1.out HB.out) | (with_reducible refine Kd.C_alloc ?_ _) | (with_reducible refine Kd.C_drewN ?_ _) | (with_reducible refine Kd.C_drew ?_)))
      (case side2 => exact HCx1.out)
      (case side3 => repeat (first | exact (Kd.C_below HRx2.out HB.out) | (with_reducible refine Kd.C_alloc ?_ _) | (with_reducible refine Kd.C_drewN ?_ _) | (with_reducible refine Kd.C_drew ?_)))
      (case side4 => exact HCx2.out)
      (case side5 => repeat (first | exact (Kd.C_below HRx3.out HB.out) | (with_reducible refine Kd.C_alloc ?_ _) | (with_reducible refine Kd.C_drewN ?_ _) | (with_reducible refine Kd.C_drew ?_)))
      (case side6 => exact HCx3.out)
      (case side7 => repeat (first | exact (Kd.C_below HRx4.out HB.out) | (with_reducible refine Kd.C_alloc ?_ _) | (with_reducible refine Kd.C_drewN ?_ _) | (with_reducible refine Kd.C_drew ?_)))
      (case side8 => exact HCx4.out)
      rintro e wx2 ⟨rfl, hb⟩
      refine ⟨_, rfl, ?_⟩
      replace HB := aS HB hb
      (try clear hb)
      (try clear hb2)
      (try clear hk)
      (try clear hi)
      refine hK.out _ _ ⟨(bc HB.out hwx5 :), (bc HB.out hwx4 :), (bc HB.out hwx3 :), (bc HB.out hwx2 :), (bc HB.out hwx1 :), (bc HB.out hwx10 :), (bc HB.out hwx9 :), (bc HB.out hwx8 :), (bc HB.out hwx7 :), (bc HB.out hwx6 :)⟩ (fun hHeld => ?_)
      clear hK K
      refine nZ 25 ?_
      refine pZ 9 26 (bm 10 1023) HT_.out ?_
      refine done_ (done_of HT_.out (by kernel_rfl)) ?_
      try go_wp2
      go_roundg k1
      case measure => have := HKy1.out; omega
      case rel => exact ⟨(wrap64 (x5_1 + 1)), rS, H', ⟨by have := HKy1.out; omega⟩, ⟨(hX HB.out)⟩⟩
def laws_eqMem.f (k : Nat) (l0_0 : List (S140)) (l0_1 : List (S162)) (l1_0 : List (S140)) (l1_1 : List (S162)) : Option (Bool) := (laws_eqWordS.f k l0_0 l1_0).bind fun t103 => (if t103 = true then ((laws_eqDescS.f k l0_1 l1_1).bind fun t104 => (if t104 = true then (some true) else (some false))) else (some false))
set_option maxHeartbeats 8000000 in
set_option maxRecDepth 100000 in
theorem laws_eqMem.calls (k : Nat) (A0_0 : Option Addr) (c0_0 : Nat) (l0_0 : List (S140)) (A0_1 : Option Addr) (c0_1 : Nat) (l0_1 : List (S162)) (A1_0 : Option Addr) (c1_0 : Nat) (l1_0 : List (S140)) (A1_1 : Option Addr) (c1_1 : Nat) (l1_1 : List (S162)) (r : Bool) (w : World) (hr0_0 : Kd.C k140 w A0_0 l0_0.length l0_0) (hc0_0 : l0_0.length ≤ c0_0) (hr0_1 : Kd.C k162 w A0_1 l0_1.length l0_1) (hc0_1 : l0_1.length ≤ c0_1) (hr1_0 : Kd.C k140 w A1_0 l1_0.length l1_0) (hc1_0 : l1_0.length ≤ c1_0) (hr1_1 : Kd.C k162 w A1_1 l1_1.length l1_1) (hc1_1 : l1_1.length ≤ c1_1) (h : laws_eqMem.f k l0_0 l0_1 l1_0 l1_1 = some r) :
    Calls Tryz.prog 50 #[.agg #[.slice A0_0 l0_0.length c0_0, .slice A0_1 l0_1.length c0_1], .agg #[.slice A1_0 l1_0.length c1_0, .slice A1_1 l1_1.length c1_1]] w fun e w' => e = .returned (.bool r) ∧ Below w.heap.size w w' := by
  have hu38 := Tryz.underlying38
  have HR0_0 := aM hr0_0
  have HC0_0 := aM hc0_0
  clear hr0_0 hc0_0
  have HR0_1 := aM hr0_1
  have HC0_1 := aM hc0_1
  clear hr0_1 hc0_1
  have HR1_0 := aM hr1_0
  have HC1_0 := aM hc1_0
  clear hr1_0 hc1_0
  have HR1_1 := aM hr1_1
  have HC1_1 := aM hc1_1
  clear hr1_1 hc1_1
  have HB := aM (Below.refl w.heap.size w)
  have H := h
  unfold laws_eqMem.f at H
  clear h
  replace H := bE H; obtain ⟨t103, A3, H⟩ := H
  go_enter Tryz.func50, Tryz.ntmps50
  go_wp2_with (first | (refine boxE 2 #[.slice A0_0 l0_0.length c0_0, .slice A0_1 l0_1.length c0_1] 38 ?_; intro gbz1 hg wz1 hbox hb; have BKz1 := aM (hbox); have GWz1 := aG hg HB; have GEz1 := aG hg HB; replace HB := aS HB hb; clear hb hbox hg) | (refine boxE 3 #[.slice A1_0 l1_0.length c1_0, .slice A1_1 l1_1.length c1_1] 38 ?_; intro gbz2 hg wz2 hbox hb; have BKz2 := aM (hbox); have GWz2 := aG hg HB; have GEz2 := aG hg HB; have NBz1 := aL hg BKz1; have NBz2 := aR hg BKz1; replace BKz1 := aB BKz1 hb; replace HB := aS HB hb; clear hb hbox hg; have hnbz1 := NBz1.out; have hncz1 := NBz2.out; obtain ⟨hczz1, hczz2, hfzz1, hfzz2⟩ := cZ2 BKz1.out; obtain ⟨hczz3, hczz4, hfzz3, hfzz4⟩ := cZ2 BKz2.out; refine Stop.out ?_))
  refine ⟨?_⟩
  by_cases c4 : t103 = true
  case neg =>
    replace c4 := Bool.eq_false_iff.mpr c4
    subst c4
    rw [if_neg nft] at H
    obtain rfl := sI H
    go_wp2_with (first | (refine goesM 109 9 Tryz.func109 #[.slice A0_0 l0_0.length c0_0, .slice A1_0 l1_0.length c1_0] ?_; refine (laws_eqWordS.calls _ _ _ _ _ _ _ _ _ (cC HR0_0.out HB.out) HC0_0.out (cC HR1_0.out HB.out) HC1_0.out A3.out).mono ?_; rintro e wz3 ⟨rfl, hb⟩; refine ⟨_, rfl, ?_⟩; replace BKz1 := aB BKz1 hb; replace BKz2 := aB BKz2 hb; replace HB := aS HB hb; clear hb))
    go_ret
    exact ⟨rE, (hX HB.out)⟩
  subst c4
  rw [if_pos rfl] at H
  replace H := bE H; obtain ⟨t104, A5, H⟩ := H
  go_wp2_with (first | (refine goesM 109 9 Tryz.func109 #[.slice A0_0 l0_0.length c0_0, .slice A1_0 l1_0.length c1_0] ?_; refine (laws_eqWordS.calls _ _ _ _ _ _ _ _ _ (cC HR0_0.out HB.out) HC0_0.out (cC HR1_0.out HB.out) HC1_0.out A3.out).mono ?_; rintro e wz3 ⟨rfl, hb⟩; refine ⟨_, rfl, ?_⟩; replace BKz1 := aB BKz1 hb; replace BKz2 := aB BKz2 hb; replace HB := aS HB hb; clear hb; obtain ⟨hczz5, hczz6, hfzz5, hfzz6⟩ := cZ2 BKz1.out; obtain ⟨hczz7, hczz8, hfzz7, hfzz8⟩ := cZ2 BKz2.out; refine Stop.out ?_))
  refine ⟨?_⟩
  by_cases c6 : t104 = true
  · subst c6
    rw [if_pos rfl] at H
    obtain rfl := sI H
    go_wp2_with (first | (refine goesM 110 15 Tryz.func110 #[.slice A0_1 l0_1.length c0_1, .slice A1_1 l1_1.length c1_1] ?_; refine (laws_eqDescS.calls _ _ _ _ _ _ _ _ _ (cC HR0_1.out HB.out) HC0_1.out (cC HR1_1.out HB.out) HC1_1.out A5.out).mono ?_; rintro e wz4 ⟨rfl, hb⟩; refine ⟨_, rfl, ?_⟩; replace BKz1 := aB BKz1 hb; replace BKz2 := aB BKz2 hb; replace HB := aS HB hb; clear hb))
    go_ret
    exact ⟨rE, (hX HB.out)⟩
  replace c6 := Bool.eq_false_iff.mpr c6
  subst c6
  rw [if_neg nft] at H
  obtain rfl := sI H
  go_wp2_with (first | (refine goesM 110 15 Tryz.func110 #[.slice A0_1 l0_1.length c0_1, .slice A1_1 l1_1.length c1_1] ?_; refine (laws_eqDescS.calls _ _ _ _ _ _ _ _ _ (cC HR0_1.out HB.out) HC0_1.out (cC HR1_1.out HB.out) HC1_1.out A5.out).mono ?_; rintro e wz4 ⟨rfl, hb⟩; refine ⟨_, rfl, ?_⟩; replace BKz1 := aB BKz1 hb; replace BKz2 := aB BKz2 hb; replace HB := aS HB hb; clear hb))
  go_ret
  exact ⟨rE, (hX HB.out)⟩
def laws_eqPair.f (a0_0 : Int) (a0_1 : Int) (a1_0 : Int) (a1_1 : Int) : Option (Bool) := if a0_0 = a1_0 then (if a0_1 = a1_1 then (some true) else (some false)) else (some false)
set_option maxHeartbeats 8000000 in
set_option maxRecDepth 100000 in
theorem laws_eqPair.calls (a0_0 : Int) (a0_1 : Int) (a1_0 : Int) (a1_1 : Int) (r : Bool) (w : World) (h : laws_eqPair.f a0_0 a0_1 a1_0 a1_1 = some r) :
    Calls Tryz.prog 214 #[.agg #[.int .i64 a0_0, .int .i64 a0_1], .agg #[.int .i64 a1_0, .int .i64 a1_1]] w fun e w' => e = .returned (.bool r) ∧ Below w.heap.size w w' := by
  have hu172 := Tryz.underlying172
  have HB := aM (Below.refl w.heap.size w)
  have H := h
  unfold laws_eqPair.f at H
  clear h
  go_enter Tryz.func214, Tryz.ntmps214
  go_wp2_with (first | (refine boxE 2 #[.int .i64 a0_0, .int .i64 a0_1] 172 ?_; intro gbz1 hg wz1 hbox hb; have BKz1 := aM (hbox); have GWz1 := aG hg HB; have GEz1 := aG hg HB; replace HB := aS HB hb; clear hb hbox hg) | (refine boxE 3 #[.int .i64 a1_0, .int .i64 a1_1] 172 ?_; intro gbz2 hg wz2 hbox hb; have BKz2 := aM (hbox); have GWz2 := aG hg HB; have GEz2 := aG hg HB; have NBz1 := aL hg BKz1; have NBz2 := aR hg BKz1; replace BKz1 := aB BKz1 hb; replace HB := aS HB hb; clear hb hbox hg; have hnbz1 := NBz1.out; have hncz1 := NBz2.out; obtain ⟨hczz1, hczz2, hfzz1, hfzz2⟩ := cZ2 BKz1.out; obtain ⟨hczz3, hczz4, hfzz3, hfzz4⟩ := cZ2 BKz2.out; refine Stop.out ?_))
  refine ⟨?_⟩
  by_cases c3 : a0_0 = a1_0
  case neg =>
    rw [if_neg c3] at H
    obtain ⟨c3b0, c3b1⟩ := eqF c3
    obtain rfl := sI H
    go_wp2
    go_ret
    exact ⟨rE, (hX HB.out)⟩
  rw [if_pos c3] at H
  obtain ⟨c3b0, c3b1⟩ := eqT c3
  clear c3
  by_cases c4 : a0_1 = a1_1
  case neg =>
    rw [if_neg c4] at H
    obtain ⟨c4b0, c4b1⟩ := eqF c4
    obtain rfl := sI H
    go_wp2
    go_ret
    exact ⟨rE, (hX HB.out)⟩
  rw [if_pos c4] at H
  obtain ⟨c4b0, c4b1⟩ := eqT c4
  clear c4
  obtain rfl := sI H
  go_wp2
  go_ret
  exact ⟨rE, (hX HB.out)⟩
def laws_eqPairS.l0 : Nat → List (S172) → List (S172) → Int → Option (Bool)
  | 0, _, _, _ => none
  | k + 1, x0, x1, x5 => if x5 < (x0.length : Int) then (if 0 ≤ x5 then (if x5 < (x1.length : Int) then ((laws_eqPair.f ((rd_T172 x0 x5).f0) ((rd_T172 x0 x5).f1) ((rd_T172 x1 x5).f0) ((rd_T172 x1 x5).f1)).bind fun t103 => (if t103 = true then (laws_eqPairS.l0 k x0 x1 (wrap64 (x5 + 1))) else (some false))) else (none)) else (none)) else (some true)
def laws_eqPairS.f (k : Nat) (l0 : List (S172)) (l1 : List (S172)) : Option (Bool) := if (l0.length : Int) = (l1.length : Int) then (laws_eqPairS.l0 k l0 l1 0) else (some false)
def laws_eqPairS.T6 : Bool × List (List Nat × List Nat) := (true, [([], []), ([], []), ([0, 1], [0, 1]), ([2], [2]), ([], []), ([], []), ([4, 5], [4, 5]), ([6], [6]), ([3, 7], [3, 7]), ([8], [8])])
def laws_eqPairS.B6 : List Nat := [0, 0, 3, 7, 0, 0, 48, 112, 255, 511]
theorem laws_eqPairS.tab6 : rtab .any (opsOf Tryz.f188 6) = laws_eqPairS.T6 := by kernel_rfl
theorem laws_eqPairS.bits6 : waitsOk laws_eqPairS.T6.2 laws_eqPairS.B6 = true := by kernel_rfl
set_option maxHeartbeats 8000000 in
set_option maxRecDepth 100000 in
theorem laws_eqPairS.calls (k : Nat) (A0 : Option Addr) (c0 : Nat) (l0 : List (S172)) (A1 : Option Addr) (c1 : Nat) (l1 : List (S172)) (r : Bool) (w : World) (hr0 : Kd.C k172 w A0 l0.length l0) (hc0 : l0.length ≤ c0) (hr1 : Kd.C k172 w A1 l1.length l1) (hc1 : l1.length ≤ c1) (h : laws_eqPairS.f k l0 l1 = some r) :
    Calls Tryz.prog 188 #[.slice A0 l0.length c0, .slice A1 l1.length c1] w fun e w' => e = .returned (.bool r) ∧ Below w.heap.size w w' := by
  have hu172 := Tryz.underlying172
  have HR0 := aM hr0
  have HC0 := aM hc0
  clear hr0 hc0
  have HR1 := aM hr1
  have HC1 := aM hc1
  clear hr1 hc1
  have HB := aM (Below.refl w.heap.size w)
  have H := h
  unfold laws_eqPairS.f at H
  clear h
  go_enter Tryz.func188, Tryz.ntmps188
  by_cases c3 : (l0.length : Int) = (l1.length : Int)
  case neg =>
    rw [if_neg c3] at H
    obtain ⟨c3b0, c3b1⟩ := eqF c3
    have c3b2 : (l0.length == l1.length) = false := by first | simpa using c3 | (simp at c3 ⊢; omega)
    obtain rfl := sI H
    go_wp2
    go_ret
    exact ⟨rE, (hX HB.out)⟩
  rw [if_pos c3] at H
  obtain ⟨c3b0, c3b1⟩ := eqT c3
  have c3b2 : (l0.length == l1.length) = true := by first | simpa using c3 | (simp at c3 ⊢; omega)
  clear c3
  have H' := aM H
  clear H
  go_wp2
  go_loopg [5] k (fun kq v5 w' => ∃ (x5_1 : Int), v5 = .int .i64 x5_1 ∧ Aside0 (laws_eqPairS.l0 kq l0 l1 x5_1 = some r) ∧ Aside0 (kq ≤ k) ∧ Aside0 (Below w.heap.size w w'))
  case atStart => exact ⟨(0), rS, H', ⟨Nat.le_refl _⟩, ⟨(hX HB.out)⟩⟩
  case round =>
    clear H'
    try clear p2
    try clear c3
    try clear c3b0
    try clear c3b1
    try clear c3b2
    obtain ⟨x5_1, rfl, HA, HKy1, HB⟩ := hrel
    cases gk with
    | zero => exact absurd HA.out (by simp [laws_eqPairS.l0])
    | succ k1 =>
      have H := HA.out
      clear HA
      simp only [laws_eqPairS.l0] at H
      by_cases c4 : x5_1 < (l0.length : Int)
      case neg =>
        rw [if_neg c4] at H
        have c4b0 := decide_eq_false c4
        clear c4
        obtain rfl := sI H
        go_wp2
        go_ret
        exact ⟨rE, (hX HB.out)⟩
      rw [if_pos c4] at H
      have c4b0 := decide_eq_true c4
      clear c4
      replace H := ifP H; obtain ⟨c5, H⟩ := H
      have c5b0 := decide_eq_true c5
      clear c5
      replace H := ifP H; obtain ⟨c6, H⟩ := H
      have c6b0 := decide_eq_true c6
      clear c6
      replace H := bE H; obtain ⟨t103, A7, H⟩ := H
      try go_wp2
      replace HB := aM (below_drew1 HB.out)
      have px1 : 0 ≤ (x5_1 : Int) := odA
      have qx1 : x5_1 < (l0.length : Int) := odA
      obtain ⟨adx1, ex1, hxx1, hxx2⟩ := at_T172 HR0.out x5_1 px1 qx1
      have hwx1 := hxx2
      have hwx2 := hxx1
      cases ex1
      replace hxx1 := bc HB.out hxx1
      replace hxx2 := bc HB.out hxx2
      replace px1 := eq_true px1
      replace qx1 := eq_true qx1
      have px2 : 0 ≤ (x5_1 : Int) := odA
      have qx2 : x5_1 < (l1.length : Int) := odA
      obtain ⟨adx2, ex2, hxx3, hxx4⟩ := at_T172 HR1.out x5_1 px2 qx2
      have hwx3 := hxx4
      have hwx4 := hxx3
      cases ex2
      replace hxx3 := bc HB.out hxx3
      replace hxx4 := bc HB.out hxx4
      replace px2 := eq_true px2
      replace qx2 := eq_true qx2
      refine start_ (n := 10) (S := fun w' => w'.cell? (adx1.add ((x5_1).toNat * 2)) = some (.int .i64 ((rd_T172 l0 x5_1).f0)) ∧ w'.cell? ⟨(adx1.add ((x5_1).toNat * 2)).block, (adx1.add ((x5_1).toNat * 2)).off + 1, none⟩ = some (.int .i64 ((rd_T172 l0 x5_1).f1)) ∧ w'.cell? (adx2.add ((x5_1).toNat * 2)) = some (.int .i64 ((rd_T172 l1 x5_1).f0)) ∧ w'.cell? ⟨(adx2.add ((x5_1).toNat * 2)).block, (adx2.add ((x5_1).toNat * 2)).off + 1, none⟩ = some (.int .i64 ((rd_T172 l1 x5_1).f1))) (ds := []) (bm 10 0) (by kernel_rfl) rfl (by kernel_rfl) ⟨(bc HB.out hwx2 :), (bc HB.out hwx1 :), (bc HB.out hwx4 :), (bc HB.out hwx3 :)⟩ (fun hHeld => ?_); refine with_tabW laws_eqPairS.tab6 laws_eqPairS.bits6 (fun HT_ HW_ => ?_)
      generalize wr.drew = wx1 at HB hxx1 hxx2 hxx3 hxx4 hHeld ⊢
      refine pZ 0 17 (bm 10 1) HT_.out ?_
      refine pZ 1 18 (bm 10 3) HT_.out ?_
      refine pZ 2 19 (bm 10 7) HT_.out ?_
      refine pZ 4 21 (bm 10 23) HT_.out ?_
      refine pZ 5 22 (bm 10 55) HT_.out ?_
      refine pZ 6 23 (bm 10 119) HT_.out ?_
      refine tZ 3 20 (bm 10 127) HT_.out HW_.out hHeld ?_
      refine tZ 7 24 (bm 10 255) HT_.out HW_.out hHeld ?_
      by_cases c8 : t103 = true
      case neg =>
        replace c8 := Bool.eq_false_iff.mpr c8
        subst c8
        rw [if_neg nft] at H
        obtain rfl := sI H
        refine oZ 8 (some 25) (bm 10 511) HT_.out (fun K hK => ?_)
        refine goesN Tryz.func214 #[.agg #[.int .i64 ((rd_T172 l0 x5_1).f0), .int .i64 ((rd_T172 l0 x5_1).f1)], .agg #[.int .i64 ((rd_T172 l1 x5_1).f0), .int .i64 ((rd_T172 l1 x5_1).f1)]] ?_
        with_reducible refine (laws_eqPair.calls _ _ _ _ _ _ A7.out).mono ?_
        rintro e wx2 ⟨rfl, hb⟩
        refine ⟨_, rfl, ?_⟩
        replace HB := aS HB hb
        (try clear hb)
        (try clear hb2)
        (try clear hk)
        (try clear hi)
        refine hK.out _ _ ⟨(bc HB.out hwx2 :), (bc HB.out hwx1 :), (bc HB.out hwx4 :), (bc HB.out hwx3 :)⟩ (fun hHeld => ?_)
        clear hK K
        refine nZ 25 ?_
        refine pZ 9 26 (bm 10 1023) HT_.out ?_
        refine done_ (done_of HT_.out (by kernel_rfl)) ?_
        try go_wp2
        go_ret
        exact ⟨rE, (hX HB.out)⟩
      subst c8
      rw [if_pos rfl] at H
      have H' := aM H
      clear H
      refine oZ 8 (some 25) (bm 10 511) HT_.out (fun K hK => ?_)
      refine goesN Tryz.func214 #[.agg #[.int .i64 ((rd_T172 l0 x5_1).f0), .int .i64 ((rd_T172 l0 x5_1).f1)], .agg #[.int .i64 ((rd_T172 l1 x5_1).f0), .int .i64 ((rd_T172 l1 x5_1).f1)]] ?_
      with_reducible refine (laws_eqPair.calls _ _ _ _ _ _ A7.out).mono ?_
      rintro e wx2 ⟨rfl, hb⟩
      refine ⟨_, rfl, ?_⟩
      replace HB := aS HB hb
      (try clear hb)
      (try clear hb2)
      (try clear hk)
      (try clear hi)
      refine hK.out _ _ ⟨(bc HB.out hwx2 :), (bc HB.out hwx1 :), (bc HB.out hwx4 :), (bc HB.out hwx3 :)⟩ (fun hHeld => ?_)
      clear hK K
      refine nZ 25 ?_
      refine pZ 9 26 (bm 10 1023) HT_.out ?_
      refine done_ (done_of HT_.out (by kernel_rfl)) ?_
      try go_wp2
      go_roundg k1
      case measure => have := HKy1.out; omega
      case rel => exact ⟨(wrap64 (x5_1 + 1)), rS, H', ⟨by have := HKy1.out; omega⟩, ⟨(hX HB.out)⟩⟩
def laws_eqHelp.f (a0_0 : Int) (a0_1 : Int) (a0_2 : Int) (a0_3 : Int) (a1_0 : Int) (a1_1 : Int) (a1_2 : Int) (a1_3 : Int) : Option (Bool) := if a0_0 = a1_0 then (if a0_1 = a1_1 then (if a0_2 = a1_2 then (if a0_3 = a1_3 then (some true) else (some false)) else (some false)) else (some false)) else (some false)
set_option maxHeartbeats 8000000 in
set_option maxRecDepth 100000 in
theorem laws_eqHelp.calls (a0_0 : Int) (a0_1 : Int) (a0_2 : Int) (a0_3 : Int) (a1_0 : Int) (a1_1 : Int) (a1_2 : Int) (a1_3 : Int) (r : Bool) (w : World) (h : laws_eqHelp.f a0_0 a0_1 a0_2 a0_3 a1_0 a1_1 a1_2 a1_3 = some r) :
    Calls Tryz.prog 215 #[.agg #[.int .i64 a0_0, .int .i64 a0_1, .int .i64 a0_2, .int .i64 a0_3], .agg #[.int .i64 a1_0, .int .i64 a1_1, .int .i64 a1_2, .int .i64 a1_3]] w fun e w' => e = .returned (.bool r) ∧ Below w.heap.size w w' := by
  have hu174 := Tryz.underlying174
  have HB := aM (Below.refl w.heap.size w)
  have H := h
  unfold laws_eqHelp.f at H
  clear h
  go_enter Tryz.func215, Tryz.ntmps215
  go_wp2_with (first | (refine boxE 2 #[.int .i64 a0_0, .int .i64 a0_1, .int .i64 a0_2, .int .i64 a0_3] 174 ?_; intro gbz1 hg wz1 hbox hb; have BKz1 := aM (hbox); have GWz1 := aG hg HB; have GEz1 := aG hg HB; replace HB := aS HB hb; clear hb hbox hg) | (refine boxE 3 #[.int .i64 a1_0, .int .i64 a1_1, .int .i64 a1_2, .int .i64 a1_3] 174 ?_; intro gbz2 hg wz2 hbox hb; have BKz2 := aM (hbox); have GWz2 := aG hg HB; have GEz2 := aG hg HB; have NBz1 := aL hg BKz1; have NBz2 := aR hg BKz1; replace BKz1 := aB BKz1 hb; replace HB := aS HB hb; clear hb hbox hg; have hnbz1 := NBz1.out; have hncz1 := NBz2.out; obtain ⟨hczz1, hczz2, hczz3, hczz4, hfzz1, hfzz2, hfzz3, hfzz4⟩ := cZ4 BKz1.out; obtain ⟨hczz5, hczz6, hczz7, hczz8, hfzz5, hfzz6, hfzz7, hfzz8⟩ := cZ4 BKz2.out; refine Stop.out ?_))
  refine ⟨?_⟩
  by_cases c3 : a0_0 = a1_0
  case neg =>
    rw [if_neg c3] at H
    obtain ⟨c3b0, c3b1⟩ := eqF c3
    obtain rfl := sI H
    go_wp2
    go_ret
    exact ⟨rE, (hX HB.out)⟩
  rw [if_pos c3] at H
  obtain ⟨c3b0, c3b1⟩ := eqT c3
  clear c3
  by_cases c4 : a0_1 = a1_1
  case neg =>
    rw [if_neg c4] at H
    obtain ⟨c4b0, c4b1⟩ := eqF c4
    obtain rfl := sI H
    go_wp2
    go_ret
    exact ⟨rE, (hX HB.out)⟩
  rw [if_pos c4] at H
  obtain ⟨c4b0, c4b1⟩ := eqT c4
  clear c4
  by_cases c5 : a0_2 = a1_2
  case neg =>
    rw [if_neg c5] at H
    obtain ⟨c5b0, c5b1⟩ := eqF c5
    obtain rfl := sI H
    go_wp2
    go_ret
    exact ⟨rE, (hX HB.out)⟩
  rw [if_pos c5] at H
  obtain ⟨c5b0, c5b1⟩ := eqT c5
  clear c5
  by_cases c6 : a0_3 = a1_3
  case neg =>
    rw [if_neg c6] at H
    obtain ⟨c6b0, c6b1⟩ := eqF c6
    obtain rfl := sI H
    go_wp2
    go_ret
    exact ⟨rE, (hX HB.out)⟩
  rw [if_pos c6] at H
  obtain ⟨c6b0, c6b1⟩ := eqT c6
  clear c6
  obtain rfl := sI H
  go_wp2
  go_ret
  exact ⟨rE, (hX HB.out)⟩
def laws_eqHelpS.l0 : Nat → List (S174) → List (S174) → Int → Option (Bool)
  | 0, _, _, _ => none
  | k + 1, x0, x1, x5 => if x5 < (x0.length : Int) then (if 0 ≤ x5 then (if x5 < (x1.length : Int) then ((laws_eqHelp.f ((rd_T174 x0 x5).f0) ((rd_T174 x0 x5).f1) ((rd_T174 x0 x5).f2) ((rd_T174 x0 x5).f3) ((rd_T174 x1 x5).f0) ((rd_T174 x1 x5).f1) ((rd_T174 x1 x5).f2) ((rd_T174 x1 x5).f3)).bind fun t103 => (if t103 = true then (laws_eqHelpS.l0 k x0 x1 (wrap64 (x5 + 1))) else (some false))) else (none)) else (none)) else (some true)
def laws_eqHelpS.f (k : Nat) (l0 : List (S174)) (l1 : List (S174)) : Option (Bool) := if (l0.length : Int) = (l1.length : Int) then (laws_eqHelpS.l0 k l0 l1 0) else (some false)
def laws_eqHelpS.T6 : Bool × List (List Nat × List Nat) := (true, [([], []), ([], []), ([0, 1], [0, 1]), ([2], [2]), ([], []), ([], []), ([4, 5], [4, 5]), ([6], [6]), ([3, 7], [3, 7]), ([8], [8])])
def laws_eqHelpS.B6 : List Nat := [0, 0, 3, 7, 0, 0, 48, 112, 255, 511]
theorem laws_eqHelpS.tab6 : rtab .any (opsOf Tryz.f189 6) = laws_eqHelpS.T6 := by kernel_rfl
theorem laws_eqHelpS.bits6 : waitsOk laws_eqHelpS.T6.2 laws_eqHelpS.B6 = true := by kernel_rfl
set_option maxHeartbeats 8000000 in
set_option maxRecDepth 100000 in
theorem laws_eqHelpS.calls (k : Nat) (A0 : Option Addr) (c0 : Nat) (l0 : List (S174)) (A1 : Option Addr) (c1 : Nat) (l1 : List (S174)) (r : Bool) (w : World) (hr0 : Kd.C k174 w A0 l0.length l0) (hc0 : l0.length ≤ c0) (hr1 : Kd.C k174 w A1 l1.length l1) (hc1 : l1.length ≤ c1) (h : laws_eqHelpS.f k l0 l1 = some r) :
    Calls Tryz.prog 189 #[.slice A0 l0.length c0, .slice A1 l1.length c1] w fun e w' => e = .returned (.bool r) ∧ Below w.heap.size w w' := by
  have hu174 := Tryz.underlying174
  have HR0 := aM hr0
  have HC0 := aM hc0
  clear hr0 hc0
  have HR1 := aM hr1
  have HC1 := aM hc1
  clear hr1 hc1
  have HB := aM (Below.refl w.heap.size w)
  have H := h
  unfold laws_eqHelpS.f at H
  clear h
  go_enter Tryz.func189, Tryz.ntmps189
  by_cases c3 : (l0.length : Int) = (l1.length : Int)
  case neg =>
    rw [if_neg c3] at H
    obtain ⟨c3b0, c3b1⟩ := eqF c3
    have c3b2 : (l0.length == l1.length) = false := by first | simpa using c3 | (simp at c3 ⊢; omega)
    obtain rfl := sI H
    go_wp2
    go_ret
    exact ⟨rE, (hX HB.out)⟩
  rw [if_pos c3] at H
  obtain ⟨c3b0, c3b1⟩ := eqT c3
  have c3b2 : (l0.length == l1.length) = true := by first | simpa using c3 | (simp at c3 ⊢; omega)
  clear c3
  have H' := aM H
  clear H
  go_wp2
  go_loopg [5] k (fun kq v5 w' => ∃ (x5_1 : Int), v5 = .int .i64 x5_1 ∧ Aside0 (laws_eqHelpS.l0 kq l0 l1 x5_1 = some r) ∧ Aside0 (kq ≤ k) ∧ Aside0 (Below w.heap.size w w'))
  case atStart => exact ⟨(0), rS, H', ⟨Nat.le_refl _⟩, ⟨(hX HB.out)⟩⟩
  case round =>
    clear H'
    try clear p2
    try clear c3
    try clear c3b0
    try clear c3b1
    try clear c3b2
    obtain ⟨x5_1, rfl, HA, HKy1, HB⟩ := hrel
    cases gk with
    | zero => exact absurd HA.out (by simp [laws_eqHelpS.l0])
    | succ k1 =>
      have H := HA.out
      clear HA
      simp only [laws_eqHelpS.l0] at H
      by_cases c4 : x5_1 < (l0.length : Int)
      case neg =>
        rw [if_neg c4] at H
        have c4b0 := decide_eq_false c4
        clear c4
        obtain rfl := sI H
        go_wp2
        go_ret
        exact ⟨rE, (hX HB.out)⟩
      rw [if_pos c4] at H
      have c4b0 := decide_eq_true c4
      clear c4
      replace H := ifP H; obtain ⟨c5, H⟩ := H
      have c5b0 := decide_eq_true c5
      clear c5
      replace H := ifP H; obtain ⟨c6, H⟩ := H
      have c6b0 := decide_eq_true c6
      clear c6
      replace H := bE H; obtain ⟨t103, A7, H⟩ := H
      try go_wp2
      replace HB := aM (below_drew1 HB.out)
      have px1 : 0 ≤ (x5_1 : Int) := odA
      have qx1 : x5_1 < (l0.length : Int) := odA
      obtain ⟨adx1, ex1, hxx1, hxx2, hxx3, hxx4⟩ := at_T174 HR0.out x5_1 px1 qx1
      have hwx1 := hxx4
      have hwx2 := hxx3
      have hwx3 := hxx2
      have hwx4 := hxx1
      cases ex1
      replace hxx1 := bc HB.out hxx1
      replace hxx2 := bc HB.out hxx2
      replace hxx3 := bc HB.out hxx3
      replace hxx4 := bc HB.out hxx4
      replace px1 := eq_true px1
      replace qx1 := eq_true qx1
      have px2 : 0 ≤ (x5_1 : Int) := odA
      have qx2 : x5_1 < (l1.length : Int) := odA
      obtain ⟨adx2, ex2, hxx5, hxx6, hxx7, hxx8⟩ := at_T174 HR1.out x5_1 px2 qx2
      have hwx5 := hxx8
      have hwx6 := hxx7
      have hwx7 := hxx6
      have hwx8 := hxx5
      cases ex2
      replace hxx5 := bc HB.out hxx5
      replace hxx6 := bc HB.out hxx6
      replace hxx7 := bc HB.out hxx7
      replace hxx8 := bc HB.out hxx8
      replace px2 := eq_true px2
      replace qx2 := eq_true qx2
      refine start_ (n := 10) (S := fun w' => w'.cell? (adx1.add ((x5_1).toNat * 4)) = some (.int .i64 ((rd_T174 l0 x5_1).f0)) ∧ w'.cell? ⟨(adx1.add ((x5_1).toNat * 4)).block, (adx1.add ((x5_1).toNat * 4)).off + 1, none⟩ = some (.int .i64 ((rd_T174 l0 x5_1).f1)) ∧ w'.cell? ⟨(adx1.add ((x5_1).toNat * 4)).block, (adx1.add ((x5_1).toNat * 4)).off + 2, none⟩ = some (.int .i64 ((rd_T174 l0 x5_1).f2)) ∧ w'.cell? ⟨(adx1.add ((x5_1).toNat * 4)).block, (adx1.add ((x5_1).toNat * 4)).off + 3, none⟩ = some (.int .i64 ((rd_T174 l0 x5_1).f3)) ∧ w'.cell? (adx2.add ((x5_1).toNat * 4)) = some (.int .i64 ((rd_T174 l1 x5_1).f0)) ∧ w'.cell? ⟨(adx2.add ((x5_1).toNat * 4)).block, (adx2.add ((x5_1).toNat * 4)).off + 1, none⟩ = some (.int .i64 ((rd_T174 l1 x5_1).f1)) ∧ w'.cell? ⟨(adx2.add ((x5_1).toNat * 4)).block, (adx2.add ((x5_1).toNat * 4)).off + 2, none⟩ = some (.int .i64 ((rd_T174 l1 x5_1).f2)) ∧ w'.cell? ⟨(adx2.add ((x5_1).toNat * 4)).block, (adx2.add ((x5_1).toNat * 4)).off + 3, none⟩ = some (.int .i64 ((rd_T174 l1 x5_1).f3))) (ds := []) (bm 10 0) (by kernel_rfl) rfl (by kernel_rfl) ⟨(bc HB.out hwx4 :), (bc HB.out hwx3 :), (bc HB.out hwx2 :), (bc HB.out hwx1 :), (bc HB.out hwx8 :), (bc HB.out hwx7 :), (bc HB.out hwx6 :), (bc HB.out hwx5 :)⟩ (fun hHeld => ?_); refine with_tabW laws_eqHelpS.tab6 laws_eqHelpS.bits6 (fun HT_ HW_ => ?_)
      generalize wr.drew = wx1 at HB hxx1 hxx2 hxx3 hxx4 hxx5 hxx6 hxx7 hxx8 hHeld ⊢
      refine pZ 0 17 (bm 10 1) HT_.out ?_
      refine pZ 1 18 (bm 10 3) HT_.out ?_
      refine pZ 2 19 (bm 10 7) HT_.out ?_
      refine pZ 4 21 (bm 10 23) HT_.out ?_
      refine pZ 5 22 (bm 10 55) HT_.out ?_
      refine pZ 6 23 (bm 10 119) HT_.out ?_
      refine tZ 3 20 (bm 10 127) HT_.out HW_.out hHeld ?_
      refine tZ 7 24 (bm 10 255) HT_.out HW_.out hHeld ?_
      by_cases c8 : t103 = true
      case neg =>
        replace c8 := Bool.eq_false_iff.mpr c8
        subst c8
        rw [if_neg nft] at H
        obtain rfl := sI H
        refine oZ 8 (some 25) (bm 10 511) HT_.out (fun K hK => ?_)
        refine goesN Tryz.func215 #[.agg #[.int .i64 ((rd_T174 l0 x5_1).f0), .int .i64 ((rd_T174 l0 x5_1).f1), .int .i64 ((rd_T174 l0 x5_1).f2), .int .i64 ((rd_T174 l0 x5_1).f3)], .agg #[.int .i64 ((rd_T174 l1 x5_1).f0), .int .i64 ((rd_T174 l1 x5_1).f1), .int .i64 ((rd_T174 l1 x5_1).f2), .int .i64 ((rd_T174 l1 x5_1).f3)]] ?_
        with_reducible refine (laws_eqHelp.calls _ _ _ _ _ _ _ _ _ _ A7.out).mono ?_
        rintro e wx2 ⟨rfl, hb⟩
        refine ⟨_, rfl, ?_⟩
        replace HB := aS HB hb
        (try clear hb)
        (try clear hb2)
        (try clear hk)
        (try clear hi)
        refine hK.out _ _ ⟨(bc HB.out hwx4 :), (bc HB.out hwx3 :), (bc HB.out hwx2 :), (bc HB.out hwx1 :), (bc HB.out hwx8 :), (bc HB.out hwx7 :), (bc HB.out hwx6 :), (bc HB.out hwx5 :)⟩ (fun hHeld => ?_)
        clear hK K
        refine nZ 25 ?_
        refine pZ 9 26 (bm 10 1023) HT_.out ?_
        refine done_ (done_of HT_.out (by kernel_rfl)) ?_
        try go_wp2
        go_ret
        exact ⟨rE, (hX HB.out)⟩
      subst c8
      rw [if_pos rfl] at H
      have H' := aM H
      clear H
      refine oZ 8 (some 25) (bm 10 511) HT_.out (fun K hK => ?_)
      refine goesN Tryz.func215 #[.agg #[.int .i64 ((rd_T174 l0 x5_1).f0), .int .i64 ((rd_T174 l0 x5_1).f1), .int .i64 ((rd_T174 l0 x5_1).f2), .int .i64 ((rd_T174 l0 x5_1).f3)], .agg #[.int .i64 ((rd_T174 l1 x5_1).f0), .int .i64 ((rd_T174 l1 x5_1).f1), .int .i64 ((rd_T174 l1 x5_1).f2), .int .i64 ((rd_T174 l1 x5_1).f3)]] ?_
      with_reducible refine (laws_eqHelp.calls _ _ _ _ _ _ _ _ _ _ A7.out).mono ?_
      rintro e wx2 ⟨rfl, hb⟩
      refine ⟨_, rfl, ?_⟩
      replace HB := aS HB hb
      (try clear hb)
      (try clear hb2)
      (try clear hk)
      (try clear hi)
      refine hK.out _ _ ⟨(bc HB.out hwx4 :), (bc HB.out hwx3 :), (bc HB.out hwx2 :), (bc HB.out hwx1 :), (bc HB.out hwx8 :), (bc HB.out hwx7 :), (bc HB.out hwx6 :), (bc HB.out hwx5 :)⟩ (fun hHeld => ?_)
      clear hK K
      refine nZ 25 ?_
      refine pZ 9 26 (bm 10 1023) HT_.out ?_
      refine done_ (done_of HT_.out (by kernel_rfl)) ?_
      try go_wp2
      go_roundg k1
      case measure => have := HKy1.out; omega
      case rel => exact ⟨(wrap64 (x5_1 + 1)), rS, H', ⟨by have := HKy1.out; omega⟩, ⟨(hX HB.out)⟩⟩
def laws_eqOp.f (a0_0 : Int) (a0_1 : Int) (a0_2 : Int) (a1_0 : Int) (a1_1 : Int) (a1_2 : Int) : Option (Bool) := if a0_0 = a1_0 then (if a0_1 = a1_1 then (if a0_2 = a1_2 then (some true) else (some false)) else (some false)) else (some false)
set_option maxHeartbeats 8000000 in
set_option maxRecDepth 100000 in
theorem laws_eqOp.calls (a0_0 : Int) (a0_1 : Int) (a0_2 : Int) (a1_0 : Int) (a1_1 : Int) (a1_2 : Int) (r : Bool) (w : World) (h : laws_eqOp.f a0_0 a0_1 a0_2 a1_0 a1_1 a1_2 = some r) :
    Calls Tryz.prog 128 #[.agg #[.int .i64 a0_0, .int .i64 a0_1, .int .i64 a0_2], .agg #[.int .i64 a1_0, .int .i64 a1_1, .int .i64 a1_2]] w fun e w' => e = .returned (.bool r) ∧ Below w.heap.size w w' := by
  have hu69 := Tryz.underlying69
  have HB := aM (Below.refl w.heap.size w)
  have H := h
  unfold laws_eqOp.f at H
  clear h
  go_enter Tryz.func128, Tryz.ntmps128
  go_wp2_with (first | (refine boxE 2 #[.int .i64 a0_0, .int .i64 a0_1, .int .i64 a0_2] 69 ?_; intro gbz1 hg wz1 hbox hb; have BKz1 := aM (hbox); have GWz1 := aG hg HB; have GEz1 := aG hg HB; replace HB := aS HB hb; clear hb hbox hg) | (refine boxE 3 #[.int .i64 a1_0, .int .i64 a1_1, .int .i64 a1_2] 69 ?_; intro gbz2 hg wz2 hbox hb; have BKz2 := aM (hbox); have GWz2 := aG hg HB; have GEz2 := aG hg HB; have NBz1 := aL hg BKz1; have NBz2 := aR hg BKz1; replace BKz1 := aB BKz1 hb; replace HB := aS HB hb; clear hb hbox hg; have hnbz1 := NBz1.out; have hncz1 := NBz2.out; obtain ⟨hczz1, hczz2, hczz3, hfzz1, hfzz2, hfzz3⟩ := cZ3 BKz1.out; obtain ⟨hczz4, hczz5, hczz6, hfzz4, hfzz5, hfzz6⟩ := cZ3 BKz2.out; refine Stop.out ?_))
  refine ⟨?_⟩
  by_cases c3 : a0_0 = a1_0
  case neg =>
    rw [if_neg c3] at H
    obtain ⟨c3b0, c3b1⟩ := eqF c3
    obtain rfl := sI H
    go_wp2
    go_ret
    exact ⟨rE, (hX HB.out)⟩
  rw [if_pos c3] at H
  obtain ⟨c3b0, c3b1⟩ := eqT c3
  clear c3
  by_cases c4 : a0_1 = a1_1
  case neg =>
    rw [if_neg c4] at H
    obtain ⟨c4b0, c4b1⟩ := eqF c4
    obtain rfl := sI H
    go_wp2
    go_ret
    exact ⟨rE, (hX HB.out)⟩
  rw [if_pos c4] at H
  obtain ⟨c4b0, c4b1⟩ := eqT c4
  clear c4
  by_cases c5 : a0_2 = a1_2
  case neg =>
    rw [if_neg c5] at H
    obtain ⟨c5b0, c5b1⟩ := eqF c5
    obtain rfl := sI H
    go_wp2
    go_ret
    exact ⟨rE, (hX HB.out)⟩
  rw [if_pos c5] at H
  obtain ⟨c5b0, c5b1⟩ := eqT c5
  clear c5
  obtain rfl := sI H
  go_wp2
  go_ret
  exact ⟨rE, (hX HB.out)⟩
def laws_eqOpS.l0 : Nat → List (S69) → List (S69) → Int → Option (Bool)
  | 0, _, _, _ => none
  | k + 1, x0, x1, x5 => if x5 < (x0.length : Int) then (if 0 ≤ x5 then (if x5 < (x1.length : Int) then ((laws_eqOp.f ((rd_T69 x0 x5).f0) ((rd_T69 x0 x5).f1) ((rd_T69 x0 x5).f2) ((rd_T69 x1 x5).f0) ((rd_T69 x1 x5).f1) ((rd_T69 x1 x5).f2)).bind fun t103 => (if t103 = true then (laws_eqOpS.l0 k x0 x1 (wrap64 (x5 + 1))) else (some false))) else (none)) else (none)) else (some true)
def laws_eqOpS.f (k : Nat) (l0 : List (S69)) (l1 : List (S69)) : Option (Bool) := if (l0.length : Int) = (l1.length : Int) then (laws_eqOpS.l0 k l0 l1 0) else (some false)
def laws_eqOpS.T6 : Bool × List (List Nat × List Nat) := (true, [([], []), ([], []), ([0, 1], [0, 1]), ([2], [2]), ([], []), ([], []), ([4, 5], [4, 5]), ([6], [6]), ([3, 7], [3, 7]), ([8], [8])])
def laws_eqOpS.B6 : List Nat := [0, 0, 3, 7, 0, 0, 48, 112, 255, 511]
theorem laws_eqOpS.tab6 : rtab .any (opsOf Tryz.f70 6) = laws_eqOpS.T6 := by kernel_rfl
theorem laws_eqOpS.bits6 : waitsOk laws_eqOpS.T6.2 laws_eqOpS.B6 = true := by kernel_rfl
set_option maxHeartbeats 8000000 in
set_option maxRecDepth 100000 in
theorem laws_eqOpS.calls (k : Nat) (A0 : Option Addr) (c0 : Nat) (l0 : List (S69)) (A1 : Option Addr) (c1 : Nat) (l1 : List (S69)) (r : Bool) (w : World) (hr0 : Kd.C k69 w A0 l0.length l0) (hc0 : l0.length ≤ c0) (hr1 : Kd.C k69 w A1 l1.length l1) (hc1 : l1.length ≤ c1) (h : laws_eqOpS.f k l0 l1 = some r) :
    Calls Tryz.prog 70 #[.slice A0 l0.length c0, .slice A1 l1.length c1] w fun e w' => e = .returned (.bool r) ∧ Below w.heap.size w w' := by
  have hu69 := Tryz.underlying69
  have HR0 := aM hr0
  have HC0 := aM hc0
  clear hr0 hc0
  have HR1 := aM hr1
  have HC1 := aM hc1
  clear hr1 hc1
  have HB := aM (Below.refl w.heap.size w)
  have H := h
  unfold laws_eqOpS.f at H
  clear h
  go_enter Tryz.func70, Tryz.ntmps70
  by_cases c3 : (l0.length : Int) = (l1.length : Int)
  case neg =>
    rw [if_neg c3] at H
    obtain ⟨c3b0, c3b1⟩ := eqF c3
    have c3b2 : (l0.length == l1.length) = false := by first | simpa using c3 | (simp at c3 ⊢; omega)
    obtain rfl := sI H
    go_wp2
    go_ret
    exact ⟨rE, (hX HB.out)⟩
  rw [if_pos c3] at H
  obtain ⟨c3b0, c3b1⟩ := eqT c3
  have c3b2 : (l0.length == l1.length) = true := by first | simpa using c3 | (simp at c3 ⊢; omega)
  clear c3
  have H' := aM H
  clear H
  go_wp2
  go_loopg [5] k (fun kq v5 w' => ∃ (x5_1 : Int), v5 = .int .i64 x5_1 ∧ Aside0 (laws_eqOpS.l0 kq l0 l1 x5_1 = some r) ∧ Aside0 (kq ≤ k) ∧ Aside0 (Below w.heap.size w w'))
  case atStart => exact ⟨(0), rS, H', ⟨Nat.le_refl _⟩, ⟨(hX HB.out)⟩⟩
  case round =>
    clear H'
    try clear p2
    try clear c3
    try clear c3b0
    try clear c3b1
    try clear c3b2
    obtain ⟨x5_1, rfl, HA, HKy1, HB⟩ := hrel
    cases gk with
    | zero => exact absurd HA.out (by simp [laws_eqOpS.l0])
    | succ k1 =>
      have H := HA.out
      clear HA
      simp only [laws_eqOpS.l0] at H
      by_cases c4 : x5_1 < (l0.length : Int)
      case neg =>
        rw [if_neg c4] at H
        have c4b0 := decide_eq_false c4
        clear c4
        obtain rfl := sI H
        go_wp2
        go_ret
        exact ⟨rE, (hX HB.out)⟩
      rw [if_pos c4] at H
      have c4b0 := decide_eq_true c4
      clear c4
      replace H := ifP H; obtain ⟨c5, H⟩ := H
      have c5b0 := decide_eq_true c5
      clear c5
      replace H := ifP H; obtain ⟨c6, H⟩ := H
      have c6b0 := decide_eq_true c6
      clear c6
      replace H := bE H; obtain ⟨t103, A7, H⟩ := H
      try go_wp2
      replace HB := aM (below_drew1 HB.out)
      have px1 : 0 ≤ (x5_1 : Int) := odA
      have qx1 : x5_1 < (l0.length : Int) := odA
      obtain ⟨adx1, ex1, hxx1, hxx2, hxx3⟩ := at_T69 HR0.out x5_1 px1 qx1
      have hwx1 := hxx3
      have hwx2 := hxx2
      have hwx3 := hxx1
      cases ex1
      replace hxx1 := bc HB.out hxx1
      replace hxx2 := bc HB.out hxx2
      replace hxx3 := bc HB.out hxx3
      replace px1 := eq_true px1
      replace qx1 := eq_true qx1
      have px2 : 0 ≤ (x5_1 : Int) := odA
      have qx2 : x5_1 < (l1.length : Int) := odA
      obtain ⟨adx2, ex2, hxx4, hxx5, hxx6⟩ := at_T69 HR1.out x5_1 px2 qx2
      have hwx4 := hxx6
      have hwx5 := hxx5
      have hwx6 := hxx4
      cases ex2
      replace hxx4 := bc HB.out hxx4
      replace hxx5 := bc HB.out hxx5
      replace hxx6 := bc HB.out hxx6
      replace px2 := eq_true px2
      replace qx2 := eq_true qx2
      refine start_ (n := 10) (S := fun w' => w'.cell? (adx1.add ((x5_1).toNat * 3)) = some (.int .i64 ((rd_T69 l0 x5_1).f0)) ∧ w'.cell? ⟨(adx1.add ((x5_1).toNat * 3)).block, (adx1.add ((x5_1).toNat * 3)).off + 1, none⟩ = some (.int .i64 ((rd_T69 l0 x5_1).f1)) ∧ w'.cell? ⟨(adx1.add ((x5_1).toNat * 3)).block, (adx1.add ((x5_1).toNat * 3)).off + 2, none⟩ = some (.int .i64 ((rd_T69 l0 x5_1).f2)) ∧ w'.cell? (adx2.add ((x5_1).toNat * 3)) = some (.int .i64 ((rd_T69 l1 x5_1).f0)) ∧ w'.cell? ⟨(adx2.add ((x5_1).toNat * 3)).block, (adx2.add ((x5_1).toNat * 3)).off + 1, none⟩ = some (.int .i64 ((rd_T69 l1 x5_1).f1)) ∧ w'.cell? ⟨(adx2.add ((x5_1).toNat * 3)).block, (adx2.add ((x5_1).toNat * 3)).off + 2, none⟩ = some (.int .i64 ((rd_T69 l1 x5_1).f2))) (ds := []) (bm 10 0) (by kernel_rfl) rfl (by kernel_rfl) ⟨(bc HB.out hwx3 :), (bc HB.out hwx2 :), (bc HB.out hwx1 :), (bc HB.out hwx6 :), (bc HB.out hwx5 :), (bc HB.out hwx4 :)⟩ (fun hHeld => ?_); refine with_tabW laws_eqOpS.tab6 laws_eqOpS.bits6 (fun HT_ HW_ => ?_)
      generalize wr.drew = wx1 at HB hxx1 hxx2 hxx3 hxx4 hxx5 hxx6 hHeld ⊢
      refine pZ 0 17 (bm 10 1) HT_.out ?_
      refine pZ 1 18 (bm 10 3) HT_.out ?_
      refine pZ 2 19 (bm 10 7) HT_.out ?_
      refine pZ 4 21 (bm 10 23) HT_.out ?_
      refine pZ 5 22 (bm 10 55) HT_.out ?_
      refine pZ 6 23 (bm 10 119) HT_.out ?_
      refine tZ 3 20 (bm 10 127) HT_.out HW_.out hHeld ?_
      refine tZ 7 24 (bm 10 255) HT_.out HW_.out hHeld ?_
      by_cases c8 : t103 = true
      case neg =>
        replace c8 := Bool.eq_false_iff.mpr c8
        subst c8
        rw [if_neg nft] at H
        obtain rfl := sI H
        refine oZ 8 (some 25) (bm 10 511) HT_.out (fun K hK => ?_)
        refine goesN Tryz.func128 #[.agg #[.int .i64 ((rd_T69 l0 x5_1).f0), .int .i64 ((rd_T69 l0 x5_1).f1), .int .i64 ((rd_T69 l0 x5_1).f2)], .agg #[.int .i64 ((rd_T69 l1 x5_1).f0), .int .i64 ((rd_T69 l1 x5_1).f1), .int .i64 ((rd_T69 l1 x5_1).f2)]] ?_
        with_reducible refine (laws_eqOp.calls _ _ _ _ _ _ _ _ A7.out).mono ?_
        rintro e wx2 ⟨rfl, hb⟩
        refine ⟨_, rfl, ?_⟩
        replace HB := aS HB hb
        (try clear hb)
        (try clear hb2)
        (try clear hk)
        (try clear hi)
        refine hK.out _ _ ⟨(bc HB.out hwx3 :), (bc HB.out hwx2 :), (bc HB.out hwx1 :), (bc HB.out hwx6 :), (bc HB.out hwx5 :), (bc HB.out hwx4 :)⟩ (fun hHeld => ?_)
        clear hK K
        refine nZ 25 ?_
        refine pZ 9 26 (bm 10 1023) HT_.out ?_
        refine done_ (done_of HT_.out (by kernel_rfl)) ?_
        try go_wp2
        go_ret
        exact ⟨rE, (hX HB.out)⟩
      subst c8
      rw [if_pos rfl] at H
      have H' := aM H
      clear H
      refine oZ 8 (some 25) (bm 10 511) HT_.out (fun K hK => ?_)
      refine goesN Tryz.func128 #[.agg #[.int .i64 ((rd_T69 l0 x5_1).f0), .int .i64 ((rd_T69 l0 x5_1).f1), .int .i64 ((rd_T69 l0 x5_1).f2)], .agg #[.int .i64 ((rd_T69 l1 x5_1).f0), .int .i64 ((rd_T69 l1 x5_1).f1), .int .i64 ((rd_T69 l1 x5_1).f2)]] ?_
      with_reducible refine (laws_eqOp.calls _ _ _ _ _ _ _ _ A7.out).mono ?_
      rintro e wx2 ⟨rfl, hb⟩
      refine ⟨_, rfl, ?_⟩
      replace HB := aS HB hb
      (try clear hb)
      (try clear hb2)
      (try clear hk)
      (try clear hi)
      refine hK.out _ _ ⟨(bc HB.out hwx3 :), (bc HB.out hwx2 :), (bc HB.out hwx1 :), (bc HB.out hwx6 :), (bc HB.out hwx5 :), (bc HB.out hwx4 :)⟩ (fun hHeld => ?_)
      clear hK K
      refine nZ 25 ?_
      refine pZ 9 26 (bm 10 1023) HT_.out ?_
      refine done_ (done_of HT_.out (by kernel_rfl)) ?_
      try go_wp2
      go_roundg k1
      case measure => have := HKy1.out; omega
      case rel => exact ⟨(wrap64 (x5_1 + 1)), rS, H', ⟨by have := HKy1.out; omega⟩, ⟨(hX HB.out)⟩⟩
def laws_eqThread.f (k : Nat) (l0_0 : List (S69)) (a0_1 : Int) (a0_2 : Bool) (l0_3 : List (S172)) (l0_4 : List (S174)) (l1_0 : List (S69)) (a1_1 : Int) (a1_2 : Bool) (l1_3 : List (S172)) (l1_4 : List (S174)) : Option (Bool) := (laws_eqOpS.f k l0_0 l1_0).bind fun t103 => (if t103 = true then (if a0_1 = a1_1 then (if (a0_2 != a1_2) = true then (some false) else ((laws_eqPairS.f k l0_3 l1_3).bind fun t104 => (if t104 = true then ((laws_eqHelpS.f k l0_4 l1_4).bind fun t105 => (if t105 = true then (some true) else (some false))) else (some false)))) else (some false)) else (some false))
set_option maxHeartbeats 8000000 in
set_option maxRecDepth 100000 in
theorem laws_eqThread.calls (k : Nat) (A0_0 : Option Addr) (c0_0 : Nat) (l0_0 : List (S69)) (a0_1 : Int) (a0_2 : Bool) (A0_3 : Option Addr) (c0_3 : Nat) (l0_3 : List (S172)) (A0_4 : Option Addr) (c0_4 : Nat) (l0_4 : List (S174)) (A1_0 : Option Addr) (c1_0 : Nat) (l1_0 : List (S69)) (a1_1 : Int) (a1_2 : Bool) (A1_3 : Option Addr) (c1_3 : Nat) (l1_3 : List (S172)) (A1_4 : Option Addr) (c1_4 : Nat) (l1_4 : List (S174)) (r : Bool) (w : World) (hr0_0 : Kd.C k69 w A0_0 l0_0.length l0_0) (hc0_0 : l0_0.length ≤ c0_0) (hr0_3 : Kd.C k172 w A0_3 l0_3.length l0_3) (hc0_3 : l0_3.length ≤ c0_3) (hr0_4 : Kd.C k174 w A0_4 l0_4.length l0_4) (hc0_4 : l0_4.length ≤ c0_4) (hr1_0 : Kd.C k69 w A1_0 l1_0.length l1_0) (hc1_0 : l1_0.length ≤ c1_0) (hr1_3 : Kd.C k172 w A1_3 l1_3.length l1_3) (hc1_3 : l1_3.length ≤ c1_3) (hr1_4 : Kd.C k174 w A1_4 l1_4.length l1_4) (hc1_4 : l1_4.length ≤ c1_4) (h : laws_eqThread.f k l0_0 a0_1 a0_2 l0_3 l0_4 l1_0 a1_1 a1_2 l1_3 l1_4 = some r) :
    Calls Tryz.prog 111 #[.agg #[.slice A0_0 l0_0.length c0_0, .int .i64 a0_1, .bool a0_2, .slice A0_3 l0_3.length c0_3, .slice A0_4 l0_4.length c0_4], .agg #[.slice A1_0 l1_0.length c1_0, .int .i64 a1_1, .bool a1_2, .slice A1_3 l1_3.length c1_3, .slice A1_4 l1_4.length c1_4]] w fun e w' => e = .returned (.bool r) ∧ Below w.heap.size w w' := by
  have hu97 := Tryz.underlying97
  have HR0_0 := aM hr0_0
  have HC0_0 := aM hc0_0
  clear hr0_0 hc0_0
  have HR0_3 := aM hr0_3
  have HC0_3 := aM hc0_3
  clear hr0_3 hc0_3
  have HR0_4 := aM hr0_4
  have HC0_4 := aM hc0_4
  clear hr0_4 hc0_4
  have HR1_0 := aM hr1_0
  have HC1_0 := aM hc1_0
  clear hr1_0 hc1_0
  have HR1_3 := aM hr1_3
  have HC1_3 := aM hc1_3
  clear hr1_3 hc1_3
  have HR1_4 := aM hr1_4
  have HC1_4 := aM hc1_4
  clear hr1_4 hc1_4
  have HB := aM (Below.refl w.heap.size w)
  have H := h
  unfold laws_eqThread.f at H
  clear h
  replace H := bE H; obtain ⟨t103, A3, H⟩ := H
  go_enter Tryz.func111, Tryz.ntmps111
  go_wp2_with (first | (refine boxE 2 #[.slice A0_0 l0_0.length c0_0, .int .i64 a0_1, .bool a0_2, .slice A0_3 l0_3.length c0_3, .slice A0_4 l0_4.length c0_4] 97 ?_; intro gbz1 hg wz1 hbox hb; have BKz1 := aM (hbox); have GWz1 := aG hg HB; have GEz1 := aG hg HB; replace HB := aS HB hb; clear hb hbox hg) | (refine boxE 3 #[.slice A1_0 l1_0.length c1_0, .int .i64 a1_1, .bool a1_2, .slice A1_3 l1_3.length c1_3, .slice A1_4 l1_4.length c1_4] 97 ?_; intro gbz2 hg wz2 hbox hb; have BKz2 := aM (hbox); have GWz2 := aG hg HB; have GEz2 := aG hg HB; have NBz1 := aL hg BKz1; have NBz2 := aR hg BKz1; replace BKz1 := aB BKz1 hb; replace HB := aS HB hb; clear hb hbox hg; have hnbz1 := NBz1.out; have hncz1 := NBz2.out; obtain ⟨hczz1, hczz2, hczz3, hczz4, hczz5, hfzz1, hfzz2, hfzz3, hfzz4, hfzz5⟩ := cZ5 BKz1.out; obtain ⟨hczz6, hczz7, hczz8, hczz9, hczz10, hfzz6, hfzz7, hfzz8, hfzz9, hfzz10⟩ := cZ5 BKz2.out; refine Stop.out ?_))
  refine ⟨?_⟩
  by_cases c4 : t103 = true
  case neg =>
    replace c4 := Bool.eq_false_iff.mpr c4
    subst c4
    rw [if_neg nft] at H
    obtain rfl := sI H
    go_wp2_with (first | (refine goesM 70 9 Tryz.func70 #[.slice A0_0 l0_0.length c0_0, .slice A1_0 l1_0.length c1_0] ?_; refine (laws_eqOpS.calls _ _ _ _ _ _ _ _ _ (cC HR0_0.out HB.out) HC0_0.out (cC HR1_0.out HB.out) HC1_0.out A3.out).mono ?_; rintro e wz3 ⟨rfl, hb⟩; refine ⟨_, rfl, ?_⟩; replace BKz1 := aB BKz1 hb; replace BKz2 := aB BKz2 hb; replace HB := aS HB hb; clear hb))
    go_ret
    exact ⟨rE, (hX HB.out)⟩
  subst c4
  rw [if_pos rfl] at H
  go_wp2_with (first | (refine goesM 70 9 Tryz.func70 #[.slice A0_0 l0_0.length c0_0, .slice A1_0 l1_0.length c1_0] ?_; refine (laws_eqOpS.calls _ _ _ _ _ _ _ _ _ (cC HR0_0.out HB.out) HC0_0.out (cC HR1_0.out HB.out) HC1_0.out A3.out).mono ?_; rintro e wz3 ⟨rfl, hb⟩; refine ⟨_, rfl, ?_⟩; replace BKz1 := aB BKz1 hb; replace BKz2 := aB BKz2 hb; replace HB := aS HB hb; clear hb; obtain ⟨hczz11, hczz12, hczz13, hczz14, hczz15, hfzz11, hfzz12, hfzz13, hfzz14, hfzz15⟩ := cZ5 BKz1.out; obtain ⟨hczz16, hczz17, hczz18, hczz19, hczz20, hfzz16, hfzz17, hfzz18, hfzz19, hfzz20⟩ := cZ5 BKz2.out; refine Stop.out ?_))
  refine ⟨?_⟩
  by_cases c5 : a0_1 = a1_1
  case neg =>
    rw [if_neg c5] at H
    obtain ⟨c5b0, c5b1⟩ := eqF c5
    obtain rfl := sI H
    go_wp2
    go_ret
    exact ⟨rE, (hX HB.out)⟩
  rw [if_pos c5] at H
  obtain ⟨c5b0, c5b1⟩ := eqT c5
  clear c5
  by_cases c6 : (a0_2 != a1_2) = true
  · rw [if_pos c6] at H
    have c6b0 : (a0_2 != a1_2) = true := c6
    (try (have c6b1 : decide (a0_2 = a1_2) = false := by simpa using c6))
    (try (have c6b2 : (a0_2 == a1_2) = false := by simpa using c6))
    (try (have c6b3 : ¬ (a0_2 = a1_2) := by simpa using c6))
    clear c6
    obtain rfl := sI H
    go_wp2
    go_ret
    exact ⟨rE, (hX HB.out)⟩
  rw [if_neg c6] at H
  have c6b0 : (a0_2 != a1_2) = false := by simpa using c6
  (try (have c6b1 : decide (a0_2 = a1_2) = true := by simpa using c6))
  (try (have c6b2 : (a0_2 == a1_2) = true := by simpa using c6))
  clear c6
  replace H := bE H; obtain ⟨t104, A15, H⟩ := H
  by_cases c16 : t104 = true
  case neg =>
    replace c16 := Bool.eq_false_iff.mpr c16
    subst c16
    rw [if_neg nft] at H
    obtain rfl := sI H
    go_wp2_with (first | (refine goesM 188 25 Tryz.func188 #[.slice A0_3 l0_3.length c0_3, .slice A1_3 l1_3.length c1_3] ?_; refine (laws_eqPairS.calls _ _ _ _ _ _ _ _ _ (cC HR0_3.out HB.out) HC0_3.out (cC HR1_3.out HB.out) HC1_3.out A15.out).mono ?_; rintro e wz4 ⟨rfl, hb⟩; refine ⟨_, rfl, ?_⟩; replace BKz1 := aB BKz1 hb; replace BKz2 := aB BKz2 hb; replace HB := aS HB hb; clear hb))
    go_ret
    exact ⟨rE, (hX HB.out)⟩
  subst c16
  rw [if_pos rfl] at H
  replace H := bE H; obtain ⟨t105, A17, H⟩ := H
  go_wp2_with (first | (refine goesM 188 25 Tryz.func188 #[.slice A0_3 l0_3.length c0_3, .slice A1_3 l1_3.length c1_3] ?_; refine (laws_eqPairS.calls _ _ _ _ _ _ _ _ _ (cC HR0_3.out HB.out) HC0_3.out (cC HR1_3.out HB.out) HC1_3.out A15.out).mono ?_; rintro e wz4 ⟨rfl, hb⟩; refine ⟨_, rfl, ?_⟩; replace BKz1 := aB BKz1 hb; replace BKz2 := aB BKz2 hb; replace HB := aS HB hb; clear hb; obtain ⟨hczz21, hczz22, hczz23, hczz24, hczz25, hfzz21, hfzz22, hfzz23, hfzz24, hfzz25⟩ := cZ5 BKz1.out; obtain ⟨hczz26, hczz27, hczz28, hczz29, hczz30, hfzz26, hfzz27, hfzz28, hfzz29, hfzz30⟩ := cZ5 BKz2.out; refine Stop.out ?_))
  refine ⟨?_⟩
  by_cases c18 : t105 = true
  · subst c18
    rw [if_pos rfl] at H
    obtain rfl := sI H
    go_wp2_with (first | (refine goesM 189 31 Tryz.func189 #[.slice A0_4 l0_4.length c0_4, .slice A1_4 l1_4.length c1_4] ?_; refine (laws_eqHelpS.calls _ _ _ _ _ _ _ _ _ (cC HR0_4.out HB.out) HC0_4.out (cC HR1_4.out HB.out) HC1_4.out A17.out).mono ?_; rintro e wz5 ⟨rfl, hb⟩; refine ⟨_, rfl, ?_⟩; replace BKz1 := aB BKz1 hb; replace BKz2 := aB BKz2 hb; replace HB := aS HB hb; clear hb))
    go_ret
    exact ⟨rE, (hX HB.out)⟩
  replace c18 := Bool.eq_false_iff.mpr c18
  subst c18
  rw [if_neg nft] at H
  obtain rfl := sI H
  go_wp2_with (first | (refine goesM 189 31 Tryz.func189 #[.slice A0_4 l0_4.length c0_4, .slice A1_4 l1_4.length c1_4] ?_; refine (laws_eqHelpS.calls _ _ _ _ _ _ _ _ _ (cC HR0_4.out HB.out) HC0_4.out (cC HR1_4.out HB.out) HC1_4.out A17.out).mono ?_; rintro e wz5 ⟨rfl, hb⟩; refine ⟨_, rfl, ?_⟩; replace BKz1 := aB BKz1 hb; replace BKz2 := aB BKz2 hb; replace HB := aS HB hb; clear hb))
  go_ret
  exact ⟨rE, (hX HB.out)⟩
def laws_eqThreadS.l0 : Nat → List (S97) → List (S97) → Int → Option (Bool)
  | 0, _, _, _ => none
  | k + 1, x0, x1, x5 => if x5 < (x0.length : Int) then (if 0 ≤ x5 then (if x5 < (x1.length : Int) then ((laws_eqThread.f k ((rd_T97 x0 x5).f0) ((rd_T97 x0 x5).f1) ((rd_T97 x0 x5).f2) ((rd_T97 x0 x5).f3) ((rd_T97 x0 x5).f4) ((rd_T97 x1 x5).f0) ((rd_T97 x1 x5).f1) ((rd_T97 x1 x5).f2) ((rd_T97 x1 x5).f3) ((rd_T97 x1 x5).f4)).bind fun t103 => (if t103 = true then (laws_eqThreadS.l0 k x0 x1 (wrap64 (x5 + 1))) else (some false))) else (none)) else (none)) else (some true)
def laws_eqThreadS.f (k : Nat) (l0 : List (S97)) (l1 : List (S97)) : Option (Bool) := if (l0.length : Int) = (l1.length : Int) then (laws_eqThreadS.l0 k l0 l1 0) else (some false)
def laws_eqThreadS.T6 : Bool × List (List Nat × List Nat) := (true, [([], []), ([], []), ([0, 1], [0, 1]), ([2], [2]), ([], []), ([], []), ([4, 5], [4, 5]), ([6], [6]), ([3, 7], [3, 7]), ([8], [8])])
def laws_eqThreadS.B6 : List Nat := [0, 0, 3, 7, 0, 0, 48, 112, 255, 511]
theorem laws_eqThreadS.tab6 : rtab .any (opsOf Tryz.f51 6) = laws_eqThreadS.T6 := by kernel_rfl
theorem laws_eqThreadS.bits6 : waitsOk laws_eqThreadS.T6.2 laws_eqThreadS.B6 = true := by kernel_rfl
set_option maxHeartbeats 8000000 in
set_option maxRecDepth 100000 in
theorem laws_eqThreadS.calls (k : Nat) (A0 : Option Addr) (c0 : Nat) (l0 : List (S97)) (A1 : Option Addr) (c1 : Nat) (l1 : List (S97)) (r : Bool) (w : World) (hr0 : Kd.C k97 w A0 l0.length l0) (hc0 : l0.length ≤ c0) (hr1 : Kd.C k97 w A1 l1.length l1) (hc1 : l1.length ≤ c1) (h : laws_eqThreadS.f k l0 l1 = some r) :
    Calls Tryz.prog 51 #[.slice A0 l0.length c0, .slice A1 l1.length c1] w fun e w' => e = .returned (.bool r) ∧ Below w.heap.size w w' := by
  have hu97 := Tryz.underlying97
  have HR0 := aM hr0
  have HC0 := aM hc0
  clear hr0 hc0
  have HR1 := aM hr1
  have HC1 := aM hc1
  clear hr1 hc1
  have HB := aM (Below.refl w.heap.size w)
  have H := h
  unfold laws_eqThreadS.f at H
  clear h
  go_enter Tryz.func51, Tryz.ntmps51
  by_cases c3 : (l0.length : Int) = (l1.length : Int)
  case neg =>
    rw [if_neg c3] at H
    obtain ⟨c3b0, c3b1⟩ := eqF c3
    have c3b2 : (l0.length == l1.length) = false := by first | simpa using c3 | (simp at c3 ⊢; omega)
    obtain rfl := sI H
    go_wp2
    go_ret
    exact ⟨rE, (hX HB.out)⟩
  rw [if_pos c3] at H
  obtain ⟨c3b0, c3b1⟩ := eqT c3
  have c3b2 : (l0.length == l1.length) = true := by first | simpa using c3 | (simp at c3 ⊢; omega)
  clear c3
  have H' := aM H
  clear H
  go_wp2
  go_loopg [5] k (fun kq v5 w' => ∃ (x5_1 : Int), v5 = .int .i64 x5_1 ∧ Aside0 (laws_eqThreadS.l0 kq l0 l1 x5_1 = some r) ∧ Aside0 (kq ≤ k) ∧ Aside0 (Below w.heap.size w w'))
  case atStart => exact ⟨(0), rS, H', ⟨Nat.le_refl _⟩, ⟨(hX HB.out)⟩⟩
  case round =>
    clear H'
    try clear p2
    try clear c3
    try clear c3b0
    try clear c3b1
    try clear c3b2
    obtain ⟨x5_1, rfl, HA, HKy1, HB⟩ := hrel
    cases gk with
    | zero => exact absurd HA.out (by simp [laws_eqThreadS.l0])
    | succ k1 =>
      have H := HA.out
      clear HA
      simp only [laws_eqThreadS.l0] at H
      by_cases c4 : x5_1 < (l0.length : Int)
      case neg =>
        rw [if_neg c4] at H
        have c4b0 := decide_eq_false c4
        clear c4
        obtain rfl := sI H
        go_wp2
        go_ret
        exact ⟨rE, (hX HB.out)⟩
      rw [if_pos c4] at H
      have c4b0 := decide_eq_true c4
      clear c4
      replace H := ifP H; obtain ⟨c5, H⟩ := H
      have c5b0 := decide_eq_true c5
      clear c5
      replace H := ifP H; obtain ⟨c6, H⟩ := H
      have c6b0 := decide_eq_true c6
      clear c6
      replace H := bE H; obtain ⟨t103, A7, H⟩ := H
      try go_wp2
      replace HB := aM (below_drew1 HB.out)
      have px1 : 0 ≤ (x5_1 : Int) := odA
      have qx1 : x5_1 < (l0.length : Int) := odA
      obtain ⟨adx1, Ax1, cx1, Ax2, cx2, Ax3, cx3, ex1, hxx1, hxx2, hxx3, hxx4, hxx5, hlx1, hix1, hlx2, hix2, hlx3, hix3⟩ := at_T97 HR0.out x5_1 px1 qx1
      have hwx1 := hxx5
      have hwx2 := hxx4
      have hwx3 := hxx3
      have hwx4 := hxx2
      have hwx5 := hxx1
      cases ex1
      replace hxx1 := bc HB.out hxx1
      replace hxx2 := bc HB.out hxx2
      replace hxx3 := bc HB.out hxx3
      replace hxx4 := bc HB.out hxx4
      replace hxx5 := bc HB.out hxx5
      have HRx1 := aM hix1
      have HCx1 := aM hlx1
      clear hix1 hlx1
      have HRx2 := aM hix2
      have HCx2 := aM hlx2
      clear hix2 hlx2
      have HRx3 := aM hix3
      have HCx3 := aM hlx3
      clear hix3 hlx3
      replace px1 := eq_true px1
      replace qx1 := eq_true qx1
      have px2 : 0 ≤ (x5_1 : Int) := odA
      have qx2 : x5_1 < (l1.length : Int) := odA
      obtain ⟨adx2, Ax4, cx4, Ax5, cx5, Ax6, cx6, ex2, hxx6, hxx7, hxx8, hxx9, hxx10, hlx4, hix4, hlx5, hix5, hlx6, hix6⟩ := at_T97 HR1.out x5_1 px2 qx2
      have hwx6 := hxx10
      have hwx7 := hxx9
      have hwx8 := hxx8
      have hwx9 := hxx7
      have hwx10 := hxx6
      cases ex2
      replace hxx6 := bc HB.out hxx6
      replace hxx7 := bc HB.out hxx7
      replace hxx8 := bc HB.out hxx8
      replace hxx9 := bc HB.out hxx9
      replace hxx10 := bc HB.out hxx10
      have HRx4 := aM hix4
      have HCx4 := aM hlx4
      clear hix4 hlx4
      have HRx5 := aM hix5
      have HCx5 := aM hlx5
      clear hix5 hlx5
      have HRx6 := aM hix6
      have HCx6 := aM hlx6
      clear hix6 hlx6
      replace px2 := eq_true px2
      replace qx2 := eq_true qx2
      refine start_ (n := 10) (S := fun w' => w'.cell? (adx1.add ((x5_1).toNat * 5)) = some (.slice Ax1 ((rd_T97 l0 x5_1).f0).length cx1) ∧ w'.cell? ⟨(adx1.add ((x5_1).toNat * 5)).block, (adx1.add ((x5_1).toNat * 5)).off + 1, none⟩ = some (.int .i64 ((rd_T97 l0 x5_1).f1)) ∧ w'.cell? ⟨(adx1.add ((x5_1).toNat * 5)).block, (adx1.add ((x5_1).toNat * 5)).off + 2, none⟩ = some (.bool ((rd_T97 l0 x5_1).f2)) ∧ w'.cell? ⟨(adx1.add ((x5_1).toNat * 5)).block, (adx1.add ((x5_1).toNat * 5)).off + 3, none⟩ = some (.slice Ax2 ((rd_T97 l0 x5_1).f3).length cx2) ∧ w'.cell? ⟨(adx1.add ((x5_1).toNat * 5)).block, (adx1.add ((x5_1).toNat * 5)).off + 4, none⟩ = some (.slice Ax3 ((rd_T97 l0 x5_1).f4).length cx3) ∧ w'.cell? (adx2.add ((x5_1).toNat * 5)) = some (.slice Ax4 ((rd_T97 l1 x5_1).f0).length cx4) ∧ w'.cell? ⟨(adx2.add ((x5_1).toNat * 5)).block, (adx2.add ((x5_1).toNat * 5)).off + 1, none⟩ = some (.int .i64 ((rd_T97 l1 x5_1).f1)) ∧ w'.cell? ⟨(adx2.add ((x5_1).toNat * 5)).block, (adx2.add ((x5_1).toNat * 5)).off + 2, none⟩ = some (.bool ((rd_T97 l1 x5_1).f2)) ∧ w'.cell? ⟨(adx2.add ((x5_1).toNat * 5)).block, (adx2.add ((x5_1).toNat * 5)).off + 3, none⟩ = some (.slice Ax5 ((rd_T97 l1 x5_1).f3).length cx5) ∧ w'.cell? ⟨(adx2.add ((x5_1).toNat * 5)).block, (adx2.add ((x5_1).toNat * 5)).off + 4, none⟩ = some (.slice Ax6 ((rd_T97 l1 x5_1).f4).length cx6)) (ds := []) (bm 10 0) (by kernel_rfl) rfl (by kernel_rfl) ⟨(bc HB.out hwx5 :), (bc HB.out hwx4 :), (bc HB.out hwx3 :), (bc HB.out hwx2 :), (bc HB.out hwx1 :), (bc HB.out hwx10 :), (bc HB.out hwx9 :), (bc HB.out hwx8 :), (bc HB.out hwx7 :), (bc HB.out hwx6 :)⟩ (fun hHeld => ?_); refine with_tabW laws_eqThreadS.tab6 laws_eqThreadS.bits6 (fun HT_ HW_ => ?_)
      generalize wr.drew = wx1 at HB HRx1 HRx2 HRx3 HRx4 HRx5 HRx6 hxx1 hxx2 hxx3 hxx4 hxx5 hxx6 hxx7 hxx8 hxx9 hxx10 hHeld ⊢
      refine pZ 0 17 (bm 10 1) HT_.out ?_
      refine pZ 1 18 (bm 10 3) HT_.out ?_
      refine pZ 2 19 (bm 10 7) HT_.out ?_
      refine pZ 4 21 (bm 10 23) HT_.out ?_
      refine pZ 5 22 (bm 10 55) HT_.out ?_
      refine pZ 6 23 (bm 10 119) HT_.out ?_
      refine tZ 3 20 (bm 10 127) HT_.out HW_.out hHeld ?_
      refine tZ 7 24 (bm 10 255) HT_.out HW_.out hHeld ?_
      by_cases c8 : t103 = true
      case neg =>
        replace c8 := Bool.eq_false_iff.mpr c8
        subst c8
        rw [if_neg nft] at H
        obtain rfl := sI H
        refine oZ 8 (some 25) (bm 10 511) HT_.out (fun K hK => ?_)
        refine goesN Tryz.func111 #[.agg #[.slice Ax1 ((rd_T97 l0 x5_1).f0).length cx1, .int .i64 ((rd_T97 l0 x5_1).f1), .bool ((rd_T97 l0 x5_1).f2), .slice Ax2 ((rd_T97 l0 x5_1).f3).length cx2, .slice Ax3 ((rd_T97 l0 x5_1).f4).length cx3], .agg #[.slice Ax4 ((rd_T97 l1 x5_1).f0).length cx4, .int .i64 ((rd_T97 l1 x5_1).f1), .bool ((rd_T97 l1 x5_1).f2), .slice Ax5 ((rd_T97 l1 x5_1).f3).length cx5, .slice Ax6 ((rd_T97 l1 x5_1).f4).length cx6]] ?_
        with_reducible refine (laws_eqThread.calls k1 _ _ ((rd_T97 l0 x5_1).f0) ((rd_T97 l0 x5_1).f1) ((rd_T97 l0 x5_1).f2) _ _ ((rd_T97 l0 x5_1).f3) _ _ ((rd_T97 l0 x5_1).f4) _ _ ((rd_T97 l1 x5_1).f0) ((rd_T97 l1 x5_1).f1) ((rd_T97 l1 x5_1).f2) _ _ ((rd_T97 l1 x5_1).f3) _ _ ((rd_T97 l1 x5_1).f4) false _ ?side1 ?side2 ?side3 ?side4 ?side5 ?side6 ?side7 ?side8 ?side9 ?side10 ?side11 ?side12 A7.out).mono ?_
        (case side1 => repeat (first | exact (Kd.C_below HRx1.out HB.out) | (with_reducible refine Kd.C_alloc ?_ _) | (with_reducible refine Kd.C_drewN ?_ _) | (with_reducible refine Kd.C_drew ?_)))
        (case side2 => exact HCx1.out)
        (case side3 => repeat (first | exact (Kd.C_below HRx2.out HB.out) | (with_reducible refine Kd.C_alloc ?_ _) | (with_reducible refine Kd.C_drewN ?_ _) | (with_reducible refine Kd.C_drew ?_)))
        (case side4 => exact HCx2.out)
        (case side5 => repeat (first | exact (Kd.C_below HRx3.out HB.out) | (with_reducible refine Kd.C_alloc ?_ _) | (with_reducible refine Kd.C_drewN ?_ _) | (with_reducible refine Kd.C_drew ?_)))
        (case side6 => exact HCx3.out)
        (case side7 => repeat (first | exact (Kd.C_below HRx4.out HB.out) | (with_reducible refine Kd.C_alloc ?_ _) | (with_reducible refine Kd.C_drewN ?_ _) | (with_reducible refine Kd.C_drew ?_)))
        (case side8 => exact HCx4.out)
        (case side9 => repeat (first | exact (Kd.C_below HRx5.out HB.out) | (with_reducible refine Kd.C_alloc ?_ _) | (with_reducible refine Kd.C_drewN ?_ _) | (with_reducible refine Kd.C_drew ?_)))
        (case side10 => exact HCx5.out)
        (case side11 => repeat (first | exact (Kd.C_below HRx6.out HB.out) | (with_reducible refine Kd.C_alloc ?_ _) | (with_reducible refine Kd.C_drewN ?_ _) | (with_reducible refine Kd.C_drew ?_)))
        (case side12 => exact HCx6.out)
        rintro e wx2 ⟨rfl, hb⟩
        refine ⟨_, rfl, ?_⟩
        replace HB := aS HB hb
        (try clear hb)
        (try clear hb2)
        (try clear hk)
        (try clear hi)
        refine hK.out _ _ ⟨(bc HB.out hwx5 :), (bc HB.out hwx4 :), (bc HB.out hwx3 :), (bc HB.out hwx2 :), (bc HB.out hwx1 :), (bc HB.out hwx10 :), (bc HB.out hwx9 :), (bc HB.out hwx8 :), (bc HB.out hwx7 :), (bc HB.out hwx6 :)⟩ (fun hHeld => ?_)
        clear hK K
        refine nZ 25 ?_
        refine pZ 9 26 (bm 10 1023) HT_.out ?_
        refine done_ (done_of HT_.out (by kernel_rfl)) ?_
        try go_wp2
        go_ret
        exact ⟨rE, (hX HB.out)⟩
      subst c8
      rw [if_pos rfl] at H
      have H' := aM H
      clear H
      refine oZ 8 (some 25) (bm 10 511) HT_.out (fun K hK => ?_)
      refine goesN Tryz.func111 #[.agg #[.slice Ax1 ((rd_T97 l0 x5_1).f0).length cx1, .int .i64 ((rd_T97 l0 x5_1).f1), .bool ((rd_T97 l0 x5_1).f2), .slice Ax2 ((rd_T97 l0 x5_1).f3).length cx2, .slice Ax3 ((rd_T97 l0 x5_1).f4).length cx3], .agg #[.slice Ax4 ((rd_T97 l1 x5_1).f0).length cx4, .int .i64 ((rd_T97 l1 x5_1).f1), .bool ((rd_T97 l1 x5_1).f2), .slice Ax5 ((rd_T97 l1 x5_1).f3).length cx5, .slice Ax6 ((rd_T97 l1 x5_1).f4).length cx6]] ?_
      with_reducible refine (laws_eqThread.calls k1 _ _ ((rd_T97 l0 x5_1).f0) ((rd_T97 l0 x5_1).f1) ((rd_T97 l0 x5_1).f2) _ _ ((rd_T97 l0 x5_1).f3) _ _ ((rd_T97 l0 x5_1).f4) _ _ ((rd_T97 l1 x5_1).f0) ((rd_T97 l1 x5_1).f1) ((rd_T97 l1 x5_1).f2) _ _ ((rd_T97 l1 x5_1).f3) _ _ ((rd_T97 l1 x5_1).f4) true _ ?side1 ?side2 ?side3 ?side4 ?side5 ?side6 ?side7 ?side8 ?side9 ?side10 ?side11 ?side12 A7.out).mono ?_
      (case side1 => repeat (first | exact (Kd.C_below HRx1.out HB.out) | (with_reducible refine Kd.C_alloc ?_ _) | (with_reducible refine Kd.C_drewN ?_ _) | (with_reducible refine Kd.C_drew ?_)))
      (case side2 => exact HCx1.out)
      (case side3 => repeat (first | exact (Kd.C_below HRx2.out HB.out) | (with_reducible refine Kd.C_alloc ?_ _) | (with_reducible refine Kd.C_drewN ?_ _) | (with_reducible refine Kd.C_drew ?_)))
      (case side4 => exact HCx2.out)
      (case side5 => repeat (first | exact (Kd.C_below HRx3.out HB.out) | (with_reducible refine Kd.C_alloc ?_ _) | (with_reducible refine Kd.C_drewN ?_ _) | (with_reducible refine Kd.C_drew ?_)))
      (case side6 => exact HCx3.out)
      (case side7 => repeat (first | exact (Kd.C_below HRx4.out HB.out) | (with_reducible refine Kd.C_alloc ?_ _) | (with_reducible refine Kd.C_drewN ?_ _) | (with_reducible refine Kd.C_drew ?_)))
      (case side8 => exact HCx4.out)
      (case side9 => repeat (first | exact (Kd.C_below HRx5.out HB.out) | (with_reducible refine Kd.C_alloc ?_ _) | (with_reducible refine Kd.C_drewN ?_ _) | (with_reducible refine Kd.C_drew ?_)))
      (case side10 => exact HCx5.out)
      (case side11 => repeat (first | exact (Kd.C_below HRx6.out HB.out) | (with_reducible refine Kd.C_alloc ?_ _) | (with_reducible refine Kd.C_drewN ?_ _) | (with_reducible refine Kd.C_drew ?_)))
      (case side12 => exact HCx6.out)
      rintro e wx2 ⟨rfl, hb⟩
      refine ⟨_, rfl, ?_⟩
      replace HB := aS HB hb
      (try clear hb)
      (try clear hb2)
      (try clear hk)
      (try clear hi)
      refine hK.out _ _ ⟨(bc HB.out hwx5 :), (bc HB.out hwx4 :), (bc HB.out hwx3 :), (bc HB.out hwx2 :), (bc HB.out hwx1 :), (bc HB.out hwx10 :), (bc HB.out hwx9 :), (bc HB.out hwx8 :), (bc HB.out hwx7 :), (bc HB.out hwx6 :)⟩ (fun hHeld => ?_)
      clear hK K
      refine nZ 25 ?_
      refine pZ 9 26 (bm 10 1023) HT_.out ?_
      refine done_ (done_of HT_.out (by kernel_rfl)) ?_
      try go_wp2
      go_roundg k1
      case measure => have := HKy1.out; omega
      case rel => exact ⟨(wrap64 (x5_1 + 1)), rS, H', ⟨by have := HKy1.out; omega⟩, ⟨(hX HB.out)⟩⟩
end Go.Proofs.YtmljebgideecjaaGreat.P2
