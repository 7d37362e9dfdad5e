/- A part of the proof of the law FnExactJudgeTimes: texts of this seat, merged (words, printed functions of the program, plain lemmas). Conditions: none of its own. -/
import Derived.Test.YtmljebgideecjaaGreatP2kFnExactJudgeTimes3
set_option linter.unusedSimpArgs false
set_option linter.unusedVariables false
namespace Go.Proofs.YtmljebgideecjaaGreat.P2
open Go.Proofs.YtmljebgideecjaaGreatZ Go.RowKit Go.Proofs.YtmljebgideecjaaGreatW.PrintWords Go.Proofs.YtmljebgideecjaaGreatW.PrintLast Go.Proofs.YtmljebgideecjaaGreatW.PrintMore
attribute [local go_sem] max2_int min2_int max_two min_two max_three min_three max_four min_four   -- for this text's walks alone
def impl_DescOk.l0 : Nat → List (S165) → Int → Int → Int → Int → List (S165) → Int → List Int → Option (Bool)
  | 0, _, _, _, _, _, _, _, _ => none
  | k + 1, x31, x32, x33, x102000, x102001, x102002, x102003, x102004 => if x33 < x32 then (if 0 ≤ x33 then (if x33 < (x31.length : Int) then ((impl_isPlace.f ((rd_T165 x31 x33).f0)).bind fun t106 => (if t106 = true then ((impl_isWordNum.f ((rd_T165 x31 x33).f1)).bind fun t107 => (if t107 = true then ((impl_isWordNum.f ((rd_T165 x31 x33).f2)).bind fun t108 => (if t108 = true then (if x33 > 0 then (if 0 ≤ (wrap64 (x33 - 1)) then (if (wrap64 (x33 - 1)) < (x102002.length : Int) then (if ((rd_T165 x102002 (wrap64 (x33 - 1))).f0) ≥ ((rd_T165 x31 x33).f0) then (some false) else (impl_DescOk.l0 k x31 x32 (wrap64 (x33 + 1)) x102000 x102001 x102002 x102003 x102004)) else (none)) else (none)) else (impl_DescOk.l0 k x31 x32 (wrap64 (x33 + 1)) x102000 x102001 x102002 x102003 x102004)) else (some false))) else (some false))) else (some false))) else (none)) else (none)) else ((impl_from.f x102000 1 1000000).bind fun t102 => (if t102 = true then ((impl_from.f x102001 1 3).bind fun t103 => (if t103 = true then (some (decide ((x102002.length : Int) ≤ 20))) else (some false))) else (some false)))
def impl_DescOk.f (k : Nat) (a0_0 : Int) (a0_1 : Int) (l0_2 : List (S165)) (a0_3 : Int) (l0_4 : List Int) : Option (Bool) := if a0_0 = 0 then (if a0_1 = 0 then (if (l0_2.length : Int) = 0 then (if a0_3 = 0 then (some ((l0_4.length : Int) == 0)) else (some false)) else (some false)) else (some false)) else (impl_DescOk.l0 k l0_2 (l0_2.length : Int) 0 a0_0 a0_1 l0_2 a0_3 l0_4)
def impl_DescOk.T6 : Bool × List (List Nat × List Nat) := (true, [([], []), ([0], [0]), ([1], [1]), ([2], [2]), ([3, 2], [3]), ([4], [4]), ([5, 4], [4, 5]), ([6, 4, 4], [4, 6]), ([7, 4], [4, 7]), ([4, 8], [4, 8]), ([9, 7], [9]), ([10], [10]), ([11, 10], [10, 11]), ([12, 10, 10], [10, 12]), ([13, 10], [10, 13]), ([10, 14], [10, 14]), ([15, 13], [15]), ([16], [16]), ([17, 16], [16, 17]), ([18, 16, 16], [16, 18]), ([19], [19]), ([20, 19], [19, 20]), ([19], [19]), ([22, 19], [19, 22]), ([21, 23, 19], [19, 21, 23]), ([24, 19], [19, 24]), ([25, 19], [19, 25]), ([19], [19]), ([27, 19], [19, 27]), ([26, 28, 19], [19, 26, 28]), ([19, 29, 16], [16, 19, 29]), ([16, 30], [16, 30])])
def impl_DescOk.B6 : List Nat := [0, 1, 3, 7, 15, 31, 63, 127, 255, 511, 1023, 2047, 4095, 8191, 16383, 32767, 65535, 131071, 262143, 524287, 1048575, 2097151, 1048575, 5242879, 16777215, 33554431, 67108863, 1048575, 135266303, 536870911, 1073741823, 2147483647]
theorem impl_DescOk.tab6 : rtab .any (opsOf Tryz.f171 6) = impl_DescOk.T6 := by kernel_rfl
theorem impl_DescOk.bits6 : waitsOk impl_DescOk.T6.2 impl_DescOk.B6 = true := by kernel_rfl
set_option maxHeartbeats 8000000 in
set_option maxRecDepth 100000 in
theorem impl_DescOk.calls (k : Nat) (a0_0 : Int) (a0_1 : Int) (A0_2 : Option Addr) (c0_2 : Nat) (l0_2 : List (S165)) (a0_3 : Int) (A0_4 : Option Addr) (c0_4 : Nat) (l0_4 : List Int) (r : Bool) (w : World) (hr0_2 : Kd.C k165 w A0_2 l0_2.length l0_2) (hc0_2 : l0_2.length ≤ c0_2) (hr0_4 : Kd.C (Kd.int .i64) w A0_4 l0_4.length l0_4) (hc0_4 : l0_4.length ≤ c0_4) (h : impl_DescOk.f k a0_0 a0_1 l0_2 a0_3 l0_4 = some r) :
    Calls Tryz.prog 171 #[.agg #[.int .i64 a0_0, .int .i64 a0_1, .slice A0_2 l0_2.length c0_2, .int .i64 a0_3, .slice A0_4 l0_4.length c0_4]] w fun e w' => e = .returned (.bool r) ∧ Below w.heap.size w w' := by
  have hu162 := Tryz.underlying162
  have hu165 := Tryz.underlying165
  have HR0_2 := aM hr0_2
  have HC0_2 := aM hc0_2
  clear hr0_2 hc0_2
  have HR0_4 := aM hr0_4
  have HC0_4 := aM hc0_4
  clear hr0_4 hc0_4
  have HB := aM (Below.refl w.heap.size w)
  have H := h
  unfold impl_DescOk.f at H
  clear h
  go_enter Tryz.func171, Tryz.ntmps171
  go_wp2_with (first | ((with_reducible refine gate_dst (N := 1) rfl ?_); (try (refine gate_guard (by rfl) ?_; dsimp only)); refine boxF 1 #[.int .i64 a0_0, .int .i64 a0_1, .slice A0_2 l0_2.length c0_2, .int .i64 a0_3, .slice A0_4 l0_4.length c0_4] 162 ?_; intro gbz1 hg wz1 hbox hb; have BKz1 := aM (hbox); have GWz1 := aG hg HB; have GEz1 := aG hg HB; replace HB := aS HB hb; clear hb hbox hg; obtain ⟨hczz1, hczz2, hczz3, hczz4, hczz5, hfzz1, hfzz2, hfzz3, hfzz4, hfzz5⟩ := cZ5 BKz1.out; refine Stop.out ?_))
  refine ⟨?_⟩
  by_cases c2 : a0_0 = 0
  · rw [if_pos c2] at H
    obtain ⟨c2b0, c2b1⟩ := eqT c2
    clear c2
    by_cases c3 : a0_1 = 0
    case neg =>
      rw [if_neg c3] at H
      obtain ⟨c3b0, c3b1⟩ := eqF c3
      obtain rfl := sI H
      go_wp2
      go_ret
      exact ⟨rE, (hX HB.out)⟩
    rw [if_pos c3] at H
    obtain ⟨c3b0, c3b1⟩ := eqT c3
    clear c3
    by_cases c4 : (l0_2.length : Int) = 0
    case neg =>
      rw [if_neg c4] at H
      obtain ⟨c4b0, c4b1⟩ := eqF c4
      have c4b2 : ¬ (l0_2 = []) := fun h_ => c4 (by rw [h_]; rfl)
      obtain rfl := sI H
      go_wp2
      go_ret
      exact ⟨rE, (hX HB.out)⟩
    rw [if_pos c4] at H
    obtain ⟨c4b0, c4b1⟩ := eqT c4
    clear c4
    by_cases c5 : a0_3 = 0
    case neg =>
      rw [if_neg c5] at H
      obtain ⟨c5b0, c5b1⟩ := eqF c5
      obtain rfl := sI H
      go_wp2
      go_ret
      exact ⟨rE, (hX HB.out)⟩
    rw [if_pos c5] at H
    obtain ⟨c5b0, c5b1⟩ := eqT c5
    clear c5
    obtain rfl := sI H
    go_wp2
    go_ret
    exact ⟨rE, (hX HB.out)⟩
  rw [if_neg c2] at H
  obtain ⟨c2b0, c2b1⟩ := eqF c2
  have H' := aM H
  clear H
  go_wp2
  go_loopg [33] k (fun kq v33 w' => ∃ (x33_1 : Int), v33 = .int .i64 x33_1 ∧ Aside0 (impl_DescOk.l0 kq l0_2 (l0_2.length : Int) x33_1 a0_0 a0_1 l0_2 a0_3 l0_4 = some r) ∧ Aside0 (kq ≤ k) ∧ Aside0 (w'.heap[gbz1]? = some (.cells #[.int .i64 a0_0, .int .i64 a0_1, (.slice A0_2 l0_2.length c0_2), .int .i64 a0_3, (.slice A0_4 l0_4.length c0_4)] 162 (0, 0))) ∧ Aside0 (Below w.heap.size w w'))
  case atStart => exact ⟨(0), rS, H', ⟨Nat.le_refl _⟩, ⟨(bX BKz1.out)⟩, ⟨(hX HB.out)⟩⟩
  case round =>
    clear H'
    try clear c2
    try clear c2b0
    try clear c2b1
    try clear p2
    try clear hczz1 hczz2 hczz3 hczz4 hczz5 hfzz1 hfzz2 hfzz3 hfzz4 hfzz5
    obtain ⟨x33_1, rfl, HA, HKy1, BKz1, HB⟩ := hrel
    cases gk with
    | zero => exact absurd HA.out (by simp [impl_DescOk.l0])
    | succ k1 =>
      have H := HA.out
      clear HA
      simp only [impl_DescOk.l0] at H
      by_cases c16 : x33_1 < (l0_2.length : Int)
      case neg =>
        rw [if_neg c16] at H
        have c16b0 := decide_eq_false c16
        clear c16
        replace H := bE H; obtain ⟨t102, A60, H⟩ := H
        by_cases c61 : t102 = true
        case neg =>
          replace c61 := Bool.eq_false_iff.mpr c61
          subst c61
          rw [if_neg nft] at H
          obtain rfl := sI H
          obtain ⟨hczx1, hczx2, hczx3, hczx4, hczx5, hfzx1, hfzx2, hfzx3, hfzx4, hfzx5⟩ := cZ5 BKz1.out
          go_wp2_with (first | (refine goesM 102 73 Tryz.func102 #[.int .i64 a0_0, .int .i64 1, .int .i64 1000000] ?_; refine (impl_from.calls _ _ _ _ _ A60.out).mono ?_; rintro e w' ⟨rfl, ⟨nd, rfl⟩⟩; refine ⟨_, rfl, ?_⟩))
          go_ret
          exact ⟨rE, (hX HB.out)⟩
        subst c61
        rw [if_pos rfl] at H
        replace H := bE H; obtain ⟨t103, A62, H⟩ := H
        obtain ⟨hczx1, hczx2, hczx3, hczx4, hczx5, hfzx1, hfzx2, hfzx3, hfzx4, hfzx5⟩ := cZ5 BKz1.out
        go_wp2_with (first | (refine goesM 102 73 Tryz.func102 #[.int .i64 a0_0, .int .i64 1, .int .i64 1000000] ?_; refine (impl_from.calls _ _ _ _ _ A60.out).mono ?_; rintro e w' ⟨rfl, ⟨nd, rfl⟩⟩; refine ⟨_, rfl, ?_⟩; refine Stop.out ?_))
        refine ⟨?_⟩
        by_cases c63 : t103 = true
        · subst c63
          rw [if_pos rfl] at H
          obtain rfl := sI H
          go_wp2_with (first | (go_at_call 102; (with_reducible refine (impl_from.calls _ _ _ _ _ A62.out).mono ?_); rintro e w' ⟨rfl, ⟨nd, rfl⟩⟩))
          go_ret
          exact ⟨rE, (hX HB.out)⟩
        replace c63 := Bool.eq_false_iff.mpr c63
        subst c63
        rw [if_neg nft] at H
        obtain rfl := sI H
        go_wp2_with (first | (go_at_call 102; (with_reducible refine (impl_from.calls _ _ _ _ _ A62.out).mono ?_); rintro e w' ⟨rfl, ⟨nd, rfl⟩⟩))
        go_ret
        exact ⟨rE, (hX HB.out)⟩
      rw [if_pos c16] at H
      have c16b0 := decide_eq_true c16
      clear c16
      replace H := ifP H; obtain ⟨c17, H⟩ := H
      have c17b0 := decide_eq_true c17
      clear c17
      replace H := ifP H; obtain ⟨c18, H⟩ := H
      have c18b0 := decide_eq_true c18
      clear c18
      replace H := bE H; obtain ⟨t106, A19, H⟩ := H
      have px1 : 0 ≤ (x33_1 : Int) := odA
      have qx1 : x33_1 < (l0_2.length : Int) := odA
      obtain ⟨adx1, ex1, hxx1, hxx2, hxx3⟩ := at_T165b HR0_2.out HB.out x33_1 px1 qx1
      cases ex1
      replace px1 := eq_true px1
      replace qx1 := eq_true qx1
      go_wp2_with (first | ((with_reducible refine gate_dst (N := 4) rfl ?_); (try (refine gate_guard (by rfl) ?_; dsimp only)); refine boxF 4 #[.int .i64 0, .int .i64 0, .int .i64 0] 165 ?_; intro gbx1 hg wx1 hbox hb; have BKx1 := aM (hbox); have GWx1 := aG hg HB; have GEx1 := aG hg HB; have NBx1 := aL hg BKz1; have NBx2 := aR hg BKz1; replace BKz1 := aB BKz1 hb; replace HB := aS HB hb; clear hb hbox hg; have hnbx1 := NBx2.out; have hncx1 := NBx1.out; obtain ⟨hczx1, hczx2, hczx3, hfzx1, hfzx2, hfzx3⟩ := cZ3 BKx1.out; refine Stop.out ?_))
      refine ⟨?_⟩
      by_cases c20 : t106 = true
      case neg =>
        replace c20 := Bool.eq_false_iff.mpr c20
        subst c20
        rw [if_neg nft] at H
        obtain rfl := sI H
        try go_wp2
        have nx1 : Aside0 ((((wx1.setCell ⟨gbx1, 0, none⟩ (.int .i64 ((rd_T165 l0_2 x33_1).f0))).setCell ⟨gbx1, 1, none⟩ (.int .i64 ((rd_T165 l0_2 x33_1).f1))).setCell ⟨gbx1, 2, none⟩ (.int .i64 ((rd_T165 l0_2 x33_1).f2))).heap[gbz1]? = some (.cells #[.int .i64 a0_0, .int .i64 a0_1, .slice (some adx1) l0_2.length c0_2, .int .i64 a0_3, .slice A0_4 l0_4.length c0_4] 162 (0, 0))) := ⟨(bF BKz1.out)⟩
        have nx2 : Aside0 ((((wx1.setCell ⟨gbx1, 0, none⟩ (.int .i64 ((rd_T165 l0_2 x33_1).f0))).setCell ⟨gbx1, 1, none⟩ (.int .i64 ((rd_T165 l0_2 x33_1).f1))).setCell ⟨gbx1, 2, none⟩ (.int .i64 ((rd_T165 l0_2 x33_1).f2))).heap[gbx1]? = some (.cells #[.int .i64 ((rd_T165 l0_2 x33_1).f0), .int .i64 ((rd_T165 l0_2 x33_1).f1), .int .i64 ((rd_T165 l0_2 x33_1).f2)] 165 (0, 0))) := ⟨(bP BKx1.out)⟩
        have nx3 : Aside0 (Below w.heap.size w (((wx1.setCell ⟨gbx1, 0, none⟩ (.int .i64 ((rd_T165 l0_2 x33_1).f0))).setCell ⟨gbx1, 1, none⟩ (.int .i64 ((rd_T165 l0_2 x33_1).f1))).setCell ⟨gbx1, 2, none⟩ (.int .i64 ((rd_T165 l0_2 x33_1).f2)))) := ⟨(hX HB.out)⟩
        (try clear BKz1)
        (try clear BKx1)
        (try clear HB)
        generalize (((wx1.setCell ⟨gbx1, 0, none⟩ (.int .i64 ((rd_T165 l0_2 x33_1).f0))).setCell ⟨gbx1, 1, none⟩ (.int .i64 ((rd_T165 l0_2 x33_1).f1))).setCell ⟨gbx1, 2, none⟩ (.int .i64 ((rd_T165 l0_2 x33_1).f2))) = wx2 at nx1 nx2 nx3 ⊢
        have BKz1 := nx1
        have BKx1 := nx2
        have HB := nx3
        clear nx1 nx2 nx3
        replace BKz1 := aM (blk_drew BKz1.out)
        replace BKx1 := aM (blk_drew BKx1.out)
        replace HB := aM (below_drew1 HB.out)
        refine start_ (n := 32) (S := fun w' => w'.cell? ⟨gbx1, 0, none⟩ = some (.int .i64 ((rd_T165 l0_2 x33_1).f0)) ∧ w'.cell? ⟨gbx1, 1, none⟩ = some (.int .i64 ((rd_T165 l0_2 x33_1).f1)) ∧ w'.cell? ⟨gbx1, 2, none⟩ = some (.int .i64 ((rd_T165 l0_2 x33_1).f2))) (ds := []) (bm 32 0) (by kernel_rfl) rfl (by kernel_rfl) ⟨cK BKx1.out 0, cK BKx1.out 1, cK BKx1.out 2⟩ (fun hHeld => ?_); refine with_tabW impl_DescOk.tab6 impl_DescOk.bits6 (fun HT_ HW_ => ?_)
        generalize wx2.drew = wx3 at BKz1 BKx1 HB hHeld ⊢
        refine pZ 0 38 (bm 32 1) HT_.out ?_
        refine tZ 1 39 (bm 32 3) HT_.out HW_.out hHeld ?_
        refine oZ 2 (some 40) (bm 32 7) HT_.out (fun K hK => ?_)
        refine goesN Tryz.func182 #[.int .i64 ((rd_T165 l0_2 x33_1).f0)] ?_
        with_reducible refine (impl_isPlace.calls _ _ _ A19.out).mono ?_
        rintro e w' ⟨rfl, ⟨nd, rfl⟩⟩
        refine ⟨_, rfl, ?_⟩
        refine hK.out _ _ ⟨cK BKx1.out 0, cK BKx1.out 1, cK BKx1.out 2⟩ (fun hHeld => ?_)
        clear hK K
        refine nZ 40 ?_
        refine pZ 3 41 (bm 32 15) HT_.out ?_
        refine pZ 4 42 (bm 32 31) HT_.out ?_
        refine pU 5 43 (bm 32 63) HT_.out ?_
        refine pU 6 44 (bm 32 127) HT_.out ?_
        refine pU 7 45 (bm 32 255) HT_.out ?_
        refine pU 8 46 (bm 32 511) HT_.out ?_
        refine pZ 9 47 (bm 32 1023) HT_.out ?_
        refine pZ 10 48 (bm 32 2047) HT_.out ?_
        refine pU 11 49 (bm 32 4095) HT_.out ?_
        refine pU 12 50 (bm 32 8191) HT_.out ?_
        refine pU 13 51 (bm 32 16383) HT_.out ?_
        refine pU 14 52 (bm 32 32767) HT_.out ?_
        refine pZ 15 53 (bm 32 65535) HT_.out ?_
        refine pZ 16 54 (bm 32 131071) HT_.out ?_
        refine pU 17 55 (bm 32 262143) HT_.out ?_
        refine pU 18 56 (bm 32 524287) HT_.out ?_
        refine pU 19 57 (bm 32 1048575) HT_.out ?_
        refine pU 20 58 (bm 32 2097151) HT_.out ?_
        refine pU 21 59 (bm 32 4194303) HT_.out ?_
        refine pU 22 60 (bm 32 8388607) HT_.out ?_
        refine pU 23 61 (bm 32 16777215) HT_.out ?_
        refine pU 24 62 (bm 32 33554431) HT_.out ?_
        refine pU 25 63 (bm 32 67108863) HT_.out ?_
        refine pU 26 64 (bm 32 134217727) HT_.out ?_
        refine pU 27 65 (bm 32 268435455) HT_.out ?_
        refine pU 28 66 (bm 32 536870911) HT_.out ?_
        refine pU 29 67 (bm 32 1073741823) HT_.out ?_
        refine pU 30 68 (bm 32 2147483647) HT_.out ?_
        refine pZ 31 69 (bm 32 4294967295) HT_.out ?_
        refine done_ (done_of HT_.out (by kernel_rfl)) ?_
        try go_wp2
        go_ret
        exact ⟨rE, (hX HB.out)⟩
      subst c20
      rw [if_pos rfl] at H
      replace H := bE H; obtain ⟨t107, A21, H⟩ := H
      by_cases c22 : t107 = true
      case neg =>
        replace c22 := Bool.eq_false_iff.mpr c22
        subst c22
        rw [if_neg nft] at H
        obtain rfl := sI H
        try go_wp2
        have nx1 : Aside0 ((((wx1.setCell ⟨gbx1, 0, none⟩ (.int .i64 ((rd_T165 l0_2 x33_1).f0))).setCell ⟨gbx1, 1, none⟩ (.int .i64 ((rd_T165 l0_2 x33_1).f1))).setCell ⟨gbx1, 2, none⟩ (.int .i64 ((rd_T165 l0_2 x33_1).f2))).heap[gbz1]? = some (.cells #[.int .i64 a0_0, .int .i64 a0_1, .slice (some adx1) l0_2.length c0_2, .int .i64 a0_3, .slice A0_4 l0_4.length c0_4] 162 (0, 0))) := ⟨(bF BKz1.out)⟩
        have nx2 : Aside0 ((((wx1.setCell ⟨gbx1, 0, none⟩ (.int .i64 ((rd_T165 l0_2 x33_1).f0))).setCell ⟨gbx1, 1, none⟩ (.int .i64 ((rd_T165 l0_2 x33_1).f1))).setCell ⟨gbx1, 2, none⟩ (.int .i64 ((rd_T165 l0_2 x33_1).f2))).heap[gbx1]? = some (.cells #[.int .i64 ((rd_T165 l0_2 x33_1).f0), .int .i64 ((rd_T165 l0_2 x33_1).f1), .int .i64 ((rd_T165 l0_2 x33_1).f2)] 165 (0, 0))) := ⟨(bP BKx1.out)⟩
        have nx3 : Aside0 (Below w.heap.size w (((wx1.setCell ⟨gbx1, 0, none⟩ (.int .i64 ((rd_T165 l0_2 x33_1).f0))).setCell ⟨gbx1, 1, none⟩ (.int .i64 ((rd_T165 l0_2 x33_1).f1))).setCell ⟨gbx1, 2, none⟩ (.int .i64 ((rd_T165 l0_2 x33_1).f2)))) := ⟨(hX HB.out)⟩
        (try clear BKz1)
        (try clear BKx1)
        (try clear HB)
        generalize (((wx1.setCell ⟨gbx1, 0, none⟩ (.int .i64 ((rd_T165 l0_2 x33_1).f0))).setCell ⟨gbx1, 1, none⟩ (.int .i64 ((rd_T165 l0_2 x33_1).f1))).setCell ⟨gbx1, 2, none⟩ (.int .i64 ((rd_T165 l0_2 x33_1).f2))) = wx2 at nx1 nx2 nx3 ⊢
        have BKz1 := nx1
        have BKx1 := nx2
        have HB := nx3
        clear nx1 nx2 nx3
        replace BKz1 := aM (blk_drew BKz1.out)
        replace BKx1 := aM (blk_drew BKx1.out)
        replace HB := aM (below_drew1 HB.out)
        refine start_ (n := 32) (S := fun w' => w'.cell? ⟨gbx1, 0, none⟩ = some (.int .i64 ((rd_T165 l0_2 x33_1).f0)) ∧ w'.cell? ⟨gbx1, 1, none⟩ = some (.int .i64 ((rd_T165 l0_2 x33_1).f1)) ∧ w'.cell? ⟨gbx1, 2, none⟩ = some (.int .i64 ((rd_T165 l0_2 x33_1).f2))) (ds := []) (bm 32 0) (by kernel_rfl) rfl (by kernel_rfl) ⟨cK BKx1.out 0, cK BKx1.out 1, cK BKx1.out 2⟩ (fun hHeld => ?_); refine with_tabW impl_DescOk.tab6 impl_DescOk.bits6 (fun HT_ HW_ => ?_)
        generalize wx2.drew = wx3 at BKz1 BKx1 HB hHeld ⊢
        refine pZ 0 38 (bm 32 1) HT_.out ?_
        refine tZ 1 39 (bm 32 3) HT_.out HW_.out hHeld ?_
        refine oZ 2 (some 40) (bm 32 7) HT_.out (fun K hK => ?_)
        refine goesN Tryz.func182 #[.int .i64 ((rd_T165 l0_2 x33_1).f0)] ?_
        with_reducible refine (impl_isPlace.calls _ _ _ A19.out).mono ?_
        rintro e w' ⟨rfl, ⟨nd, rfl⟩⟩
        refine ⟨_, rfl, ?_⟩
        refine hK.out _ _ ⟨cK BKx1.out 0, cK BKx1.out 1, cK BKx1.out 2⟩ (fun hHeld => ?_)
        clear hK K
        refine nZ 40 ?_
        refine pZ 3 41 (bm 32 15) HT_.out ?_
        refine pZ 4 42 (bm 32 31) HT_.out ?_
        refine pZ 5 43 (bm 32 63) HT_.out ?_
        refine tZ 6 44 (bm 32 127) HT_.out HW_.out hHeld ?_
        refine oZ 7 (some 45) (bm 32 255) HT_.out (fun K hK => ?_)
        refine goesN Tryz.func183 #[.int .i64 ((rd_T165 l0_2 x33_1).f1)] ?_
        with_reducible refine (impl_isWordNum.calls _ _ _ A21.out).mono ?_
        rintro e w' ⟨rfl, ⟨nd, rfl⟩⟩
        refine ⟨_, rfl, ?_⟩
        refine hK.out _ _ ⟨cK BKx1.out 0, cK BKx1.out 1, cK BKx1.out 2⟩ (fun hHeld => ?_)
        clear hK K
        refine nZ 45 ?_
        refine pZ 8 46 (bm 32 511) HT_.out ?_
        refine pZ 9 47 (bm 32 1023) HT_.out ?_
        refine pZ 10 48 (bm 32 2047) HT_.out ?_
        refine pU 11 49 (bm 32 4095) HT_.out ?_
        refine pU 12 50 (bm 32 8191) HT_.out ?_
        refine pU 13 51 (bm 32 16383) HT_.out ?_
        refine pU 14 52 (bm 32 32767) HT_.out ?_
        refine pZ 15 53 (bm 32 65535) HT_.out ?_
        refine pZ 16 54 (bm 32 131071) HT_.out ?_
        refine pU 17 55 (bm 32 262143) HT_.out ?_
        refine pU 18 56 (bm 32 524287) HT_.out ?_
        refine pU 19 57 (bm 32 1048575) HT_.out ?_
        refine pU 20 58 (bm 32 2097151) HT_.out ?_
        refine pU 21 59 (bm 32 4194303) HT_.out ?_
        refine pU 22 60 (bm 32 8388607) HT_.out ?_
        refine pU 23 61 (bm 32 16777215) HT_.out ?_
        refine pU 24 62 (bm 32 33554431) HT_.out ?_
        refine pU 25 63 (bm 32 67108863) HT_.out ?_
        refine pU 26 64 (bm 32 134217727) HT_.out ?_
        refine pU 27 65 (bm 32 268435455) HT_.out ?_
        refine pU 28 66 (bm 32 536870911) HT_.out ?_
        refine pU 29 67 (bm 32 1073741823) HT_.out ?_
        refine pU 30 68 (bm 32 2147483647) HT_.out ?_
        refine pZ 31 69 (bm 32 4294967295) HT_.out ?_
        refine done_ (done_of HT_.out (by kernel_rfl)) ?_
        try go_wp2
        go_ret
        exact ⟨rE, (hX HB.out)⟩
      subst c22
      rw [if_pos rfl] at H
      replace H := bE H; obtain ⟨t108, A23, H⟩ := H
      by_cases c24 : t108 = true
      case neg =>
        replace c24 := Bool.eq_false_iff.mpr c24
        subst c24
        rw [if_neg nft] at H
        obtain rfl := sI H
        try go_wp2
        have nx1 : Aside0 ((((wx1.setCell ⟨gbx1, 0, none⟩ (.int .i64 ((rd_T165 l0_2 x33_1).f0))).setCell ⟨gbx1, 1, none⟩ (.int .i64 ((rd_T165 l0_2 x33_1).f1))).setCell ⟨gbx1, 2, none⟩ (.int .i64 ((rd_T165 l0_2 x33_1).f2))).heap[gbz1]? = some (.cells #[.int .i64 a0_0, .int .i64 a0_1, .slice (some adx1) l0_2.length c0_2, .int .i64 a0_3, .slice A0_4 l0_4.length c0_4] 162 (0, 0))) := ⟨(bF BKz1.out)⟩
        have nx2 : Aside0 ((((wx1.setCell ⟨gbx1, 0, none⟩ (.int .i64 ((rd_T165 l0_2 x33_1).f0))).setCell ⟨gbx1, 1, none⟩ (.int .i64 ((rd_T165 l0_2 x33_1).f1))).setCell ⟨gbx1, 2, none⟩ (.int .i64 ((rd_T165 l0_2 x33_1).f2))).heap[gbx1]? = some (.cells #[.int .i64 ((rd_T165 l0_2 x33_1).f0), .int .i64 ((rd_T165 l0_2 x33_1).f1), .int .i64 ((rd_T165 l0_2 x33_1).f2)] 165 (0, 0))) := ⟨(bP BKx1.out)⟩
        have nx3 : Aside0 (Below w.heap.size w (((wx1.setCell ⟨gbx1, 0, none⟩ (.int .i64 ((rd_T165 l0_2 x33_1).f0))).setCell ⟨gbx1, 1, none⟩ (.int .i64 ((rd_T165 l0_2 x33_1).f1))).setCell ⟨gbx1, 2, none⟩ (.int .i64 ((rd_T165 l0_2 x33_1).f2)))) := ⟨(hX HB.out)⟩
        (try clear BKz1)
        (try clear BKx1)
        (try clear HB)
        generalize (((wx1.setCell ⟨gbx1, 0, none⟩ (.int .i64 ((rd_T165 l0_2 x33_1).f0))).setCell ⟨gbx1, 1, none⟩ (.int .i64 ((rd_T165 l0_2 x33_1).f1))).setCell ⟨gbx1, 2, none⟩ (.int .i64 ((rd_T165 l0_2 x33_1).f2))) = wx2 at nx1 nx2 nx3 ⊢
        have BKz1 := nx1
        have BKx1 := nx2
        have HB := nx3
        clear nx1 nx2 nx3
        replace BKz1 := aM (blk_drew BKz1.out)
        replace BKx1 := aM (blk_drew BKx1.out)
        replace HB := aM (below_drew1 HB.out)
        refine start_ (n := 32) (S := fun w' => w'.cell? ⟨gbx1, 0, none⟩ = some (.int .i64 ((rd_T165 l0_2 x33_1).f0)) ∧ w'.cell? ⟨gbx1, 1, none⟩ = some (.int .i64 ((rd_T165 l0_2 x33_1).f1)) ∧ w'.cell? ⟨gbx1, 2, none⟩ = some (.int .i64 ((rd_T165 l0_2 x33_1).f2))) (ds := []) (bm 32 0) (by kernel_rfl) rfl (by kernel_rfl) ⟨cK BKx1.out 0, cK BKx1.out 1, cK BKx1.out 2⟩ (fun hHeld => ?_); refine with_tabW impl_DescOk.tab6 impl_DescOk.bits6 (fun HT_ HW_ => ?_)
        generalize wx2.drew = wx3 at BKz1 BKx1 HB hHeld ⊢
        refine pZ 0 38 (bm 32 1) HT_.out ?_
        refine tZ 1 39 (bm 32 3) HT_.out HW_.out hHeld ?_
        refine oZ 2 (some 40) (bm 32 7) HT_.out (fun K hK => ?_)
        refine goesN Tryz.func182 #[.int .i64 ((rd_T165 l0_2 x33_1).f0)] ?_
        with_reducible refine (impl_isPlace.calls _ _ _ A19.out).mono ?_
        rintro e w' ⟨rfl, ⟨nd, rfl⟩⟩
        refine ⟨_, rfl, ?_⟩
        refine hK.out _ _ ⟨cK BKx1.out 0, cK BKx1.out 1, cK BKx1.out 2⟩ (fun hHeld => ?_)
        clear hK K
        refine nZ 40 ?_
        refine pZ 3 41 (bm 32 15) HT_.out ?_
        refine pZ 4 42 (bm 32 31) HT_.out ?_
        refine pZ 5 43 (bm 32 63) HT_.out ?_
        refine tZ 6 44 (bm 32 127) HT_.out HW_.out hHeld ?_
        refine oZ 7 (some 45) (bm 32 255) HT_.out (fun K hK => ?_)
        refine goesN Tryz.func183 #[.int .i64 ((rd_T165 l0_2 x33_1).f1)] ?_
        with_reducible refine (impl_isWordNum.calls _ _ _ A21.out).mono ?_
        rintro e w' ⟨rfl, ⟨nd, rfl⟩⟩
        refine ⟨_, rfl, ?_⟩
        refine hK.out _ _ ⟨cK BKx1.out 0, cK BKx1.out 1, cK BKx1.out 2⟩ (fun hHeld => ?_)
        clear hK K
        refine nZ 45 ?_
        refine pZ 8 46 (bm 32 511) HT_.out ?_
        refine pZ 9 47 (bm 32 1023) HT_.out ?_
        refine pZ 10 48 (bm 32 2047) HT_.out ?_
        refine pZ 11 49 (bm 32 4095) HT_.out ?_
        refine tZ 12 50 (bm 32 8191) HT_.out HW_.out hHeld ?_
        refine oZ 13 (some 51) (bm 32 16383) HT_.out (fun K hK => ?_)
        refine goesN Tryz.func183 #[.int .i64 ((rd_T165 l0_2 x33_1).f2)] ?_
        with_reducible refine (impl_isWordNum.calls _ _ _ A23.out).mono ?_
        rintro e w' ⟨rfl, ⟨nd, rfl⟩⟩
        refine ⟨_, rfl, ?_⟩
        refine hK.out _ _ ⟨cK BKx1.out 0, cK BKx1.out 1, cK BKx1.out 2⟩ (fun hHeld => ?_)
        clear hK K
        refine nZ 51 ?_
        refine pZ 14 52 (bm 32 32767) HT_.out ?_
        refine pZ 15 53 (bm 32 65535) HT_.out ?_
        refine pZ 16 54 (bm 32 131071) HT_.out ?_
        refine pU 17 55 (bm 32 262143) HT_.out ?_
        refine pU 18 56 (bm 32 524287) HT_.out ?_
        refine pU 19 57 (bm 32 1048575) HT_.out ?_
        refine pU 20 58 (bm 32 2097151) HT_.out ?_
        refine pU 21 59 (bm 32 4194303) HT_.out ?_
        refine pU 22 60 (bm 32 8388607) HT_.out ?_
        refine pU 23 61 (bm 32 16777215) HT_.out ?_
        refine pU 24 62 (bm 32 33554431) HT_.out ?_
        refine pU 25 63 (bm 32 67108863) HT_.out ?_
        refine pU 26 64 (bm 32 134217727) HT_.out ?_
        refine pU 27 65 (bm 32 268435455) HT_.out ?_
        refine pU 28 66 (bm 32 536870911) HT_.out ?_
        refine pU 29 67 (bm 32 1073741823) HT_.out ?_
        refine pU 30 68 (bm 32 2147483647) HT_.out ?_
        refine pZ 31 69 (bm 32 4294967295) HT_.out ?_
        refine done_ (done_of HT_.out (by kernel_rfl)) ?_
        try go_wp2
        go_ret
        exact ⟨rE, (hX HB.out)⟩
      subst c24
      rw [if_pos rfl] at H
      by_cases c25 : x33_1 > 0
      case neg =>
        rw [if_neg c25] at H
        have c25b0 := decide_eq_false c25
        clear c25
        have H' := aM H
        clear H
        try go_wp2
        have nx1 : Aside0 ((((wx1.setCell ⟨gbx1, 0, none⟩ (.int .i64 ((rd_T165 l0_2 x33_1).f0))).setCell ⟨gbx1, 1, none⟩ (.int .i64 ((rd_T165 l0_2 x33_1).f1))).setCell ⟨gbx1, 2, none⟩ (.int .i64 ((rd_T165 l0_2 x33_1).f2))).heap[gbz1]? = some (.cells #[.int .i64 a0_0, .int .i64 a0_1, .slice (some adx1) l0_2.length c0_2, .int .i64 a0_3, .slice A0_4 l0_4.length c0_4] 162 (0, 0))) := ⟨(bF BKz1.out)⟩
        have nx2 : Aside0 ((((wx1.setCell ⟨gbx1, 0, none⟩ (.int .i64 ((rd_T165 l0_2 x33_1).f0))).setCell ⟨gbx1, 1, none⟩ (.int .i64 ((rd_T165 l0_2 x33_1).f1))).setCell ⟨gbx1, 2, none⟩ (.int .i64 ((rd_T165 l0_2 x33_1).f2))).heap[gbx1]? = some (.cells #[.int .i64 ((rd_T165 l0_2 x33_1).f0), .int .i64 ((rd_T165 l0_2 x33_1).f1), .int .i64 ((rd_T165 l0_2 x33_1).f2)] 165 (0, 0))) := ⟨(bP BKx1.out)⟩
        have nx3 : Aside0 (Below w.heap.size w (((wx1.setCell ⟨gbx1, 0, none⟩ (.int .i64 ((rd_T165 l0_2 x33_1).f0))).setCell ⟨gbx1, 1, none⟩ (.int .i64 ((rd_T165 l0_2 x33_1).f1))).setCell ⟨gbx1, 2, none⟩ (.int .i64 ((rd_T165 l0_2 x33_1).f2)))) := ⟨(hX HB.out)⟩
        (try clear BKz1)
        (try clear BKx1)
        (try clear HB)
        generalize (((wx1.setCell ⟨gbx1, 0, none⟩ (.int .i64 ((rd_T165 l0_2 x33_1).f0))).setCell ⟨gbx1, 1, none⟩ (.int .i64 ((rd_T165 l0_2 x33_1).f1))).setCell ⟨gbx1, 2, none⟩ (.int .i64 ((rd_T165 l0_2 x33_1).f2))) = wx2 at nx1 nx2 nx3 ⊢
        have BKz1 := nx1
        have BKx1 := nx2
        have HB := nx3
        clear nx1 nx2 nx3
        replace BKz1 := aM (blk_drew BKz1.out)
        replace BKx1 := aM (blk_drew BKx1.out)
        replace HB := aM (below_drew1 HB.out)
        refine start_ (n := 32) (S := fun w' => w'.cell? ⟨gbx1, 0, none⟩ = some (.int .i64 ((rd_T165 l0_2 x33_1).f0)) ∧ w'.cell? ⟨gbx1, 1, none⟩ = some (.int .i64 ((rd_T165 l0_2 x33_1).f1)) ∧ w'.cell? ⟨gbx1, 2, none⟩ = some (.int .i64 ((rd_T165 l0_2 x33_1).f2))) (ds := []) (bm 32 0) (by kernel_rfl) rfl (by kernel_rfl) ⟨cK BKx1.out 0, cK BKx1.out 1, cK BKx1.out 2⟩ (fun hHeld => ?_); refine with_tabW impl_DescOk.tab6 impl_DescOk.bits6 (fun HT_ HW_ => ?_)
        generalize wx2.drew = wx3 at BKz1 BKx1 HB hHeld ⊢
        refine pZ 0 38 (bm 32 1) HT_.out ?_
        refine tZ 1 39 (bm 32 3) HT_.out HW_.out hHeld ?_
        refine oZ 2 (some 40) (bm 32 7) HT_.out (fun K hK => ?_)
        refine goesN Tryz.func182 #[.int .i64 ((rd_T165 l0_2 x33_1).f0)] ?_
        with_reducible refine (impl_isPlace.calls _ _ _ A19.out).mono ?_
        rintro e w' ⟨rfl, ⟨nd, rfl⟩⟩
        refine ⟨_, rfl, ?_⟩
        refine hK.out _ _ ⟨cK BKx1.out 0, cK BKx1.out 1, cK BKx1.out 2⟩ (fun hHeld => ?_)
        clear hK K
        refine nZ 40 ?_
        refine pZ 3 41 (bm 32 15) HT_.out ?_
        refine pZ 4 42 (bm 32 31) HT_.out ?_
        refine pZ 5 43 (bm 32 63) HT_.out ?_
        refine tZ 6 44 (bm 32 127) HT_.out HW_.out hHeld ?_
        refine oZ 7 (some 45) (bm 32 255) HT_.out (fun K hK => ?_)
        refine goesN Tryz.func183 #[.int .i64 ((rd_T165 l0_2 x33_1).f1)] ?_
        with_reducible refine (impl_isWordNum.calls _ _ _ A21.out).mono ?_
        rintro e w' ⟨rfl, ⟨nd, rfl⟩⟩
        refine ⟨_, rfl, ?_⟩
        refine hK.out _ _ ⟨cK BKx1.out 0, cK BKx1.out 1, cK BKx1.out 2⟩ (fun hHeld => ?_)
        clear hK K
        refine nZ 45 ?_
        refine pZ 8 46 (bm 32 511) HT_.out ?_
        refine pZ 9 47 (bm 32 1023) HT_.out ?_
        refine pZ 10 48 (bm 32 2047) HT_.out ?_
        refine pZ 11 49 (bm 32 4095) HT_.out ?_
        refine tZ 12 50 (bm 32 8191) HT_.out HW_.out hHeld ?_
        refine oZ 13 (some 51) (bm 32 16383) HT_.out (fun K hK => ?_)
        refine goesN Tryz.func183 #[.int .i64 ((rd_T165 l0_2 x33_1).f2)] ?_
        with_reducible refine (impl_isWordNum.calls _ _ _ A23.out).mono ?_
        rintro e w' ⟨rfl, ⟨nd, rfl⟩⟩
        refine ⟨_, rfl, ?_⟩
        refine hK.out _ _ ⟨cK BKx1.out 0, cK BKx1.out 1, cK BKx1.out 2⟩ (fun hHeld => ?_)
        clear hK K
        refine nZ 51 ?_
        refine pZ 14 52 (bm 32 32767) HT_.out ?_
        refine pZ 15 53 (bm 32 65535) HT_.out ?_
        refine pZ 16 54 (bm 32 131071) HT_.out ?_
        refine pZ 17 55 (bm 32 262143) HT_.out ?_
        refine pZ 18 56 (bm 32 524287) HT_.out ?_
        refine pZ 19 57 (bm 32 1048575) HT_.out ?_
        refine pU 20 58 (bm 32 2097151) HT_.out ?_
        refine pU 21 59 (bm 32 4194303) HT_.out ?_
        refine pU 22 60 (bm 32 8388607) HT_.out ?_
        refine pU 23 61 (bm 32 16777215) HT_.out ?_
        refine pU 24 62 (bm 32 33554431) HT_.out ?_
        refine pU 25 63 (bm 32 67108863) HT_.out ?_
        refine pU 26 64 (bm 32 134217727) HT_.out ?_
        refine pU 27 65 (bm 32 268435455) HT_.out ?_
        refine pU 28 66 (bm 32 536870911) HT_.out ?_
        refine pU 29 67 (bm 32 1073741823) HT_.out ?_
        refine pZ 30 68 (bm 32 2147483647) HT_.out ?_
        refine pZ 31 69 (bm 32 4294967295) HT_.out ?_
        refine done_ (done_of HT_.out (by kernel_rfl)) ?_
        try go_wp2
        go_roundg k1
        case measure => have := HKy1.out; omega
        case rel => exact ⟨(wrap64 (x33_1 + 1)), rS, H', ⟨by have := HKy1.out; omega⟩, ⟨(bX BKz1.out)⟩, ⟨(hX HB.out)⟩⟩
      rw [if_pos c25] at H
      have c25b0 := decide_eq_true c25
      clear c25
      obtain ⟨ji26, hji26⟩ : ∃ j_ : Int, (wrap64 (x33_1 - 1)) = j_ := ⟨_, rfl⟩
      replace H : (if 0 ≤ (ji26) then (if (ji26) < (l0_2.length : Int) then (if ((rd_T165 l0_2 (ji26)).f0) ≥ ((rd_T165 l0_2 x33_1).f0) then (some false) else (impl_DescOk.l0 k1 l0_2 (l0_2.length : Int) (wrap64 (x33_1 + 1)) a0_0 a0_1 l0_2 a0_3 l0_4)) else (none)) else (none)) = some r := by first | (rw [hji26] at H; exact H) | (simp only [hji26] at H ⊢; exact H)
      (try rw [hji26] at A19)
      (try rw [hji26] at A21)
      (try rw [hji26] at A23)
      have hji26w : (IntKind.i64.wrap (x33_1 - 1)) = ji26 := (i64_w _).trans hji26
      replace H := ifP H; obtain ⟨c27, H⟩ := H
      have c27b0 := decide_eq_true c27
      clear c27
      replace H := ifP H; obtain ⟨c28, H⟩ := H
      have c28b0 := decide_eq_true c28
      clear c28
      by_cases c29 : ((rd_T165 l0_2 (ji26)).f0) ≥ ((rd_T165 l0_2 x33_1).f0)
      · rw [if_pos c29] at H
        have c29b0 := decide_eq_true c29
        clear c29
        obtain rfl := sI H
        try go_wp2
        have nx1 : Aside0 ((((wx1.setCell ⟨gbx1, 0, none⟩ (.int .i64 ((rd_T165 l0_2 x33_1).f0))).setCell ⟨gbx1, 1, none⟩ (.int .i64 ((rd_T165 l0_2 x33_1).f1))).setCell ⟨gbx1, 2, none⟩ (.int .i64 ((rd_T165 l0_2 x33_1).f2))).heap[gbz1]? = some (.cells #[.int .i64 a0_0, .int .i64 a0_1, .slice (some adx1) l0_2.length c0_2, .int .i64 a0_3, .slice A0_4 l0_4.length c0_4] 162 (0, 0))) := ⟨(bF BKz1.out)⟩
        have nx2 : Aside0 ((((wx1.setCell ⟨gbx1, 0, none⟩ (.int .i64 ((rd_T165 l0_2 x33_1).f0))).setCell ⟨gbx1, 1, none⟩ (.int .i64 ((rd_T165 l0_2 x33_1).f1))).setCell ⟨gbx1, 2, none⟩ (.int .i64 ((rd_T165 l0_2 x33_1).f2))).heap[gbx1]? = some (.cells #[.int .i64 ((rd_T165 l0_2 x33_1).f0), .int .i64 ((rd_T165 l0_2 x33_1).f1), .int .i64 ((rd_T165 l0_2 x33_1).f2)] 165 (0, 0))) := ⟨(bP BKx1.out)⟩
        have nx3 : Aside0 (Below w.heap.size w (((wx1.setCell ⟨gbx1, 0, none⟩ (.int .i64 ((rd_T165 l0_2 x33_1).f0))).setCell ⟨gbx1, 1, none⟩ (.int .i64 ((rd_T165 l0_2 x33_1).f1))).setCell ⟨gbx1, 2, none⟩ (.int .i64 ((rd_T165 l0_2 x33_1).f2)))) := ⟨(hX HB.out)⟩
        (try clear BKz1)
        (try clear BKx1)
        (try clear HB)
        generalize (((wx1.setCell ⟨gbx1, 0, none⟩ (.int .i64 ((rd_T165 l0_2 x33_1).f0))).setCell ⟨gbx1, 1, none⟩ (.int .i64 ((rd_T165 l0_2 x33_1).f1))).setCell ⟨gbx1, 2, none⟩ (.int .i64 ((rd_T165 l0_2 x33_1).f2))) = wx2 at nx1 nx2 nx3 ⊢
        have BKz1 := nx1
        have BKx1 := nx2
        have HB := nx3
        clear nx1 nx2 nx3
        replace BKz1 := aM (blk_drew BKz1.out)
        replace BKx1 := aM (blk_drew BKx1.out)
        replace HB := aM (below_drew1 HB.out)
        have px2 : 0 ≤ ((ji26) : Int) := odA
        have qx2 : (ji26) < (l0_2.length : Int) := odA
        obtain ⟨adx2, ex2, hxx4, hxx5, hxx6⟩ := at_T165 HR0_2.out (ji26) px2 qx2
        have hwx1 := hxx6
        have hwx2 := hxx5
        have hwx3 := hxx4
        obtain rfl : adx1 = adx2 := (by injection ex2)
        replace hxx4 := bc HB.out hxx4
        replace hxx5 := bc HB.out hxx5
        replace hxx6 := bc HB.out hxx6
        replace px2 := eq_true px2
        replace qx2 := eq_true qx2
        refine start_ (n := 32) (S := fun w' => w'.cell? ⟨gbx1, 0, none⟩ = some (.int .i64 ((rd_T165 l0_2 x33_1).f0)) ∧ w'.cell? ⟨gbx1, 1, none⟩ = some (.int .i64 ((rd_T165 l0_2 x33_1).f1)) ∧ w'.cell? ⟨gbx1, 2, none⟩ = some (.int .i64 ((rd_T165 l0_2 x33_1).f2)) ∧ w'.cell? ⟨gbz1, 0, none⟩ = some (.int .i64 a0_0) ∧ w'.cell? ⟨gbz1, 1, none⟩ = some (.int .i64 a0_1) ∧ w'.cell? ⟨gbz1, 2, none⟩ = some (.slice (some adx1) l0_2.length c0_2) ∧ w'.cell? ⟨gbz1, 3, none⟩ = some (.int .i64 a0_3) ∧ w'.cell? ⟨gbz1, 4, none⟩ = some (.slice A0_4 l0_4.length c0_4) ∧ w'.cell? (adx1.add (((ji26)).toNat * 3)) = some (.int .i64 ((rd_T165 l0_2 (ji26)).f0)) ∧ w'.cell? ⟨(adx1.add (((ji26)).toNat * 3)).block, (adx1.add (((ji26)).toNat * 3)).off + 1, none⟩ = some (.int .i64 ((rd_T165 l0_2 (ji26)).f1)) ∧ w'.cell? ⟨(adx1.add (((ji26)).toNat * 3)).block, (adx1.add (((ji26)).toNat * 3)).off + 2, none⟩ = some (.int .i64 ((rd_T165 l0_2 (ji26)).f2))) (ds := []) (bm 32 0) (by kernel_rfl) rfl (by kernel_rfl) ⟨cK BKx1.out 0, cK BKx1.out 1, cK BKx1.out 2, cK BKz1.out 0, cK BKz1.out 1, cK BKz1.out 2, cK BKz1.out 3, cK BKz1.out 4, (bc HB.out hwx3 :), (bc HB.out hwx2 :), (bc HB.out hwx1 :)⟩ (fun hHeld => ?_); refine with_tabW impl_DescOk.tab6 impl_DescOk.bits6 (fun HT_ HW_ => ?_)
        generalize wx2.drew = wx3 at BKz1 BKx1 HB hxx4 hxx5 hxx6 hHeld ⊢
        refine pZ 0 38 (bm 32 1) HT_.out ?_
        refine tZ 1 39 (bm 32 3) HT_.out HW_.out hHeld ?_
        refine oZ 2 (some 40) (bm 32 7) HT_.out (fun K hK => ?_)
        refine goesN Tryz.func182 #[.int .i64 ((rd_T165 l0_2 x33_1).f0)] ?_
        with_reducible refine (impl_isPlace.calls _ _ _ A19.out).mono ?_
        rintro e w' ⟨rfl, ⟨nd, rfl⟩⟩
        refine ⟨_, rfl, ?_⟩
        refine hK.out _ _ ⟨cK BKx1.out 0, cK BKx1.out 1, cK BKx1.out 2, cK BKz1.out 0, cK BKz1.out 1, cK BKz1.out 2, cK BKz1.out 3, cK BKz1.out 4, (bc HB.out hwx3 :), (bc HB.out hwx2 :), (bc HB.out hwx1 :)⟩ (fun hHeld => ?_)
        clear hK K
        refine nZ 40 ?_
        refine pZ 3 41 (bm 32 15) HT_.out ?_
        refine pZ 4 42 (bm 32 31) HT_.out ?_
        refine pZ 5 43 (bm 32 63) HT_.out ?_
        refine tZ 6 44 (bm 32 127) HT_.out HW_.out hHeld ?_
        refine oZ 7 (some 45) (bm 32 255) HT_.out (fun K hK => ?_)
        refine goesN Tryz.func183 #[.int .i64 ((rd_T165 l0_2 x33_1).f1)] ?_
        with_reducible refine (impl_isWordNum.calls _ _ _ A21.out).mono ?_
        rintro e w' ⟨rfl, ⟨nd, rfl⟩⟩
        refine ⟨_, rfl, ?_⟩
        refine hK.out _ _ ⟨cK BKx1.out 0, cK BKx1.out 1, cK BKx1.out 2, cK BKz1.out 0, cK BKz1.out 1, cK BKz1.out 2, cK BKz1.out 3, cK BKz1.out 4, (bc HB.out hwx3 :), (bc HB.out hwx2 :), (bc HB.out hwx1 :)⟩ (fun hHeld => ?_)
        clear hK K
        refine nZ 45 ?_
        refine pZ 8 46 (bm 32 511) HT_.out ?_
        refine pZ 9 47 (bm 32 1023) HT_.out ?_
        refine pZ 10 48 (bm 32 2047) HT_.out ?_
        refine pZ 11 49 (bm 32 4095) HT_.out ?_
        refine tZ 12 50 (bm 32 8191) HT_.out HW_.out hHeld ?_
        refine oZ 13 (some 51) (bm 32 16383) HT_.out (fun K hK => ?_)
        refine goesN Tryz.func183 #[.int .i64 ((rd_T165 l0_2 x33_1).f2)] ?_
        with_reducible refine (impl_isWordNum.calls _ _ _ A23.out).mono ?_
        rintro e w' ⟨rfl, ⟨nd, rfl⟩⟩
        refine ⟨_, rfl, ?_⟩
        refine hK.out _ _ ⟨cK BKx1.out 0, cK BKx1.out 1, cK BKx1.out 2, cK BKz1.out 0, cK BKz1.out 1, cK BKz1.out 2, cK BKz1.out 3, cK BKz1.out 4, (bc HB.out hwx3 :), (bc HB.out hwx2 :), (bc HB.out hwx1 :)⟩ (fun hHeld => ?_)
        clear hK K
        refine nZ 51 ?_
        refine pZ 14 52 (bm 32 32767) HT_.out ?_
        refine pZ 15 53 (bm 32 65535) HT_.out ?_
        refine pZ 16 54 (bm 32 131071) HT_.out ?_
        refine pZ 17 55 (bm 32 262143) HT_.out ?_
        refine pZ 18 56 (bm 32 524287) HT_.out ?_
        refine pZ 19 57 (bm 32 1048575) HT_.out ?_
        refine pZ 20 58 (bm 32 2097151) HT_.out ?_
        refine pZ 22 60 (bm 32 6291455) HT_.out ?_
        refine pZ 23 61 (bm 32 14680063) HT_.out ?_
        refine pZ 27 65 (bm 32 148897791) HT_.out ?_
        refine tZ 21 59 (bm 32 150994943) HT_.out HW_.out hHeld ?_
        refine pZ 24 62 (bm 32 167772159) HT_.out ?_
        refine pZ 25 63 (bm 32 201326591) HT_.out ?_
        refine tZ 26 64 (bm 32 268435455) HT_.out HW_.out hHeld ?_
        refine tZ 28 66 (bm 32 536870911) HT_.out HW_.out hHeld ?_
        refine pZ 29 67 (bm 32 1073741823) HT_.out ?_
        refine pZ 30 68 (bm 32 2147483647) HT_.out ?_
        refine pZ 31 69 (bm 32 4294967295) HT_.out ?_
        refine done_ (done_of HT_.out (by kernel_rfl)) ?_
        try go_wp2
        go_ret
        exact ⟨by first | rfl | (simp [errW_none, errW_some] <;> rfl) | (simp only [← hji26]; first | rfl | (simp [errW_none, errW_some] <;> rfl)) | (simp [*, errW_none, errW_some] <;> rfl), (hX HB.out)⟩
      rw [if_neg c29] at H
      have c29b0 := decide_eq_false c29
      clear c29
      have H' := aM H
      clear H
      try go_wp2
      have nx1 : Aside0 ((((wx1.setCell ⟨gbx1, 0, none⟩ (.int .i64 ((rd_T165 l0_2 x33_1).f0))).setCell ⟨gbx1, 1, none⟩ (.int .i64 ((rd_T165 l0_2 x33_1).f1))).setCell ⟨gbx1, 2, none⟩ (.int .i64 ((rd_T165 l0_2 x33_1).f2))).heap[gbz1]? = some (.cells #[.int .i64 a0_0, .int .i64 a0_1, .slice (some adx1) l0_2.length c0_2, .int .i64 a0_3, .slice A0_4 l0_4.length c0_4] 162 (0, 0))) := ⟨(bF BKz1.out)⟩
      have nx2 : Aside0 ((((wx1.setCell ⟨gbx1, 0, none⟩ (.int .i64 ((rd_T165 l0_2 x33_1).f0))).setCell ⟨gbx1, 1, none⟩ (.int .i64 ((rd_T165 l0_2 x33_1).f1))).setCell ⟨gbx1, 2, none⟩ (.int .i64 ((rd_T165 l0_2 x33_1).f2))).heap[gbx1]? = some (.cells #[.int .i64 ((rd_T165 l0_2 x33_1).f0), .int .i64 ((rd_T165 l0_2 x33_1).f1), .int .i64 ((rd_T165 l0_2 x33_1).f2)] 165 (0, 0))) := ⟨(bP BKx1.out)⟩
      have nx3 : Aside0 (Below w.heap.size w (((wx1.setCell ⟨gbx1, 0, none⟩ (.int .i64 ((rd_T165 l0_2 x33_1).f0))).setCell ⟨gbx1, 1, none⟩ (.int .i64 ((rd_T165 l0_2 x33_1).f1))).setCell ⟨gbx1, 2, none⟩ (.int .i64 ((rd_T165 l0_2 x33_1).f2)))) := ⟨(hX HB.out)⟩
      (try clear BKz1)
      (try clear BKx1)
      (try clear HB)
      generalize (((wx1.setCell ⟨gbx1, 0, none⟩ (.int .i64 ((rd_T165 l0_2 x33_1).f0))).setCell ⟨gbx1, 1, none⟩ (.int .i64 ((rd_T165 l0_2 x33_1).f1))).setCell ⟨gbx1, 2, none⟩ (.int .i64 ((rd_T165 l0_2 x33_1).f2))) = wx2 at nx1 nx2 nx3 ⊢
      have BKz1 := nx1
      have BKx1 := nx2
      have HB := nx3
      clear nx1 nx2 nx3
      replace BKz1 := aM (blk_drew BKz1.out)
      replace BKx1 := aM (blk_drew BKx1.out)
      replace HB := aM (below_drew1 HB.out)
      have px2 : 0 ≤ ((ji26) : Int) := odA
      have qx2 : (ji26) < (l0_2.length : Int) := odA
      obtain ⟨adx2, ex2, hxx4, hxx5, hxx6⟩ := at_T165 HR0_2.out (ji26) px2 qx2
      have hwx1 := hxx6
      have hwx2 := hxx5
      have hwx3 := hxx4
      obtain rfl : adx1 = adx2 := (by injection ex2)
      replace hxx4 := bc HB.out hxx4
      replace hxx5 := bc HB.out hxx5
      replace hxx6 := bc HB.out hxx6
      replace px2 := eq_true px2
      replace qx2 := eq_true qx2
      refine start_ (n := 32) (S := fun w' => w'.cell? ⟨gbx1, 0, none⟩ = some (.int .i64 ((rd_T165 l0_2 x33_1).f0)) ∧ w'.cell? ⟨gbx1, 1, none⟩ = some (.int .i64 ((rd_T165 l0_2 x33_1).f1)) ∧ w'.cell? ⟨gbx1, 2, none⟩ = some (.int .i64 ((rd_T165 l0_2 x33_1).f2)) ∧ w'.cell? ⟨gbz1, 0, none⟩ = some (.int .i64 a0_0) ∧ w'.cell? ⟨gbz1, 1, none⟩ = some (.int .i64 a0_1) ∧ w'.cell? ⟨gbz1, 2, none⟩ = some (.slice (some adx1) l0_2.length c0_2) ∧ w'.cell? ⟨gbz1, 3, none⟩ = some (.int .i64 a0_3) ∧ w'.cell? ⟨gbz1, 4, none⟩ = some (.slice A0_4 l0_4.length c0_4) ∧ w'.cell? (adx1.add (((ji26)).toNat * 3)) = some (.int .i64 ((rd_T165 l0_2 (ji26)).f0)) ∧ w'.cell? ⟨(adx1.add (((ji26)).toNat * 3)).block, (adx1.add (((ji26)).toNat * 3)).off + 1, none⟩ = some (.int .i64 ((rd_T165 l0_2 (ji26)).f1)) ∧ w'.cell? ⟨(adx1.add (((ji26)).toNat * 3)).block, (adx1.add (((ji26)).toNat * 3)).off + 2, none⟩ = some (.int .i64 ((rd_T165 l0_2 (ji26)).f2))) (ds := []) (bm 32 0) (by kernel_rfl) rfl (by kernel_rfl) ⟨cK BKx1.out 0, cK BKx1.out 1, cK BKx1.out 2, cK BKz1.out 0, cK BKz1.out 1, cK BKz1.out 2, cK BKz1.out 3, cK BKz1.out 4, (bc HB.out hwx3 :), (bc HB.out hwx2 :), (bc HB.out hwx1 :)⟩ (fun hHeld => ?_); refine with_tabW impl_DescOk.tab6 impl_DescOk.bits6 (fun HT_ HW_ => ?_)
      generalize wx2.drew = wx3 at BKz1 BKx1 HB hxx4 hxx5 hxx6 hHeld ⊢
      refine pZ 0 38 (bm 32 1) HT_.out ?_
      refine tZ 1 39 (bm 32 3) HT_.out HW_.out hHeld ?_
      refine oZ 2 (some 40) (bm 32 7) HT_.out (fun K hK => ?_)
      refine goesN Tryz.func182 #[.int .i64 ((rd_T165 l0_2 x33_1).f0)] ?_
      with_reducible refine (impl_isPlace.calls _ _ _ A19.out).mono ?_
      rintro e w' ⟨rfl, ⟨nd, rfl⟩⟩
      refine ⟨_, rfl, ?_⟩
      refine hK.out _ _ ⟨cK BKx1.out 0, cK BKx1.out 1, cK BKx1.out 2, cK BKz1.out 0, cK BKz1.out 1, cK BKz1.out 2, cK BKz1.out 3, cK BKz1.out 4, (bc HB.out hwx3 :), (bc HB.out hwx2 :), (bc HB.out hwx1 :)⟩ (fun hHeld => ?_)
      clear hK K
      refine nZ 40 ?_
      refine pZ 3 41 (bm 32 15) HT_.out ?_
      refine pZ 4 42 (bm 32 31) HT_.out ?_
      refine pZ 5 43 (bm 32 63) HT_.out ?_
      refine tZ 6 44 (bm 32 127) HT_.out HW_.out hHeld ?_
      refine oZ 7 (some 45) (bm 32 255) HT_.out (fun K hK => ?_)
      refine goesN Tryz.func183 #[.int .i64 ((rd_T165 l0_2 x33_1).f1)] ?_
      with_reducible refine (impl_isWordNum.calls _ _ _ A21.out).mono ?_
      rintro e w' ⟨rfl, ⟨nd, rfl⟩⟩
      refine ⟨_, rfl, ?_⟩
      refine hK.out _ _ ⟨cK BKx1.out 0, cK BKx1.out 1, cK BKx1.out 2, cK BKz1.out 0, cK BKz1.out 1, cK BKz1.out 2, cK BKz1.out 3, cK BKz1.out 4, (bc HB.out hwx3 :), (bc HB.out hwx2 :), (bc HB.out hwx1 :)⟩ (fun hHeld => ?_)
      clear hK K
      refine nZ 45 ?_
      refine pZ 8 46 (bm 32 511) HT_.out ?_
      refine pZ 9 47 (bm 32 1023) HT_.out ?_
      refine pZ 10 48 (bm 32 2047) HT_.out ?_
      refine pZ 11 49 (bm 32 4095) HT_.out ?_
      refine tZ 12 50 (bm 32 8191) HT_.out HW_.out hHeld ?_
      refine oZ 13 (some 51) (bm 32 16383) HT_.out (fun K hK => ?_)
      refine goesN Tryz.func183 #[.int .i64 ((rd_T165 l0_2 x33_1).f2)] ?_
      with_reducible refine (impl_isWordNum.calls _ _ _ A23.out).mono ?_
      rintro e w' ⟨rfl, ⟨nd, rfl⟩⟩
      refine ⟨_, rfl, ?_⟩
      refine hK.out _ _ ⟨cK BKx1.out 0, cK BKx1.out 1, cK BKx1.out 2, cK BKz1.out 0, cK BKz1.out 1, cK BKz1.out 2, cK BKz1.out 3, cK BKz1.out 4, (bc HB.out hwx3 :), (bc HB.out hwx2 :), (bc HB.out hwx1 :)⟩ (fun hHeld => ?_)
      clear hK K
      refine nZ 51 ?_
      refine pZ 14 52 (bm 32 32767) HT_.out ?_
      refine pZ 15 53 (bm 32 65535) HT_.out ?_
      refine pZ 16 54 (bm 32 131071) HT_.out ?_
      refine pZ 17 55 (bm 32 262143) HT_.out ?_
      refine pZ 18 56 (bm 32 524287) HT_.out ?_
      refine pZ 19 57 (bm 32 1048575) HT_.out ?_
      refine pZ 20 58 (bm 32 2097151) HT_.out ?_
      refine pZ 22 60 (bm 32 6291455) HT_.out ?_
      refine pZ 23 61 (bm 32 14680063) HT_.out ?_
      refine pZ 27 65 (bm 32 148897791) HT_.out ?_
      refine tZ 21 59 (bm 32 150994943) HT_.out HW_.out hHeld ?_
      refine pZ 24 62 (bm 32 167772159) HT_.out ?_
      refine pZ 25 63 (bm 32 201326591) HT_.out ?_
      refine tZ 26 64 (bm 32 268435455) HT_.out HW_.out hHeld ?_
      refine tZ 28 66 (bm 32 536870911) HT_.out HW_.out hHeld ?_
      refine pZ 29 67 (bm 32 1073741823) HT_.out ?_
      refine pZ 30 68 (bm 32 2147483647) HT_.out ?_
      refine pZ 31 69 (bm 32 4294967295) HT_.out ?_
      refine done_ (done_of HT_.out (by kernel_rfl)) ?_
      try go_wp2
      go_roundg k1
      case measure => have := HKy1.out; omega
      case rel => exact ⟨(wrap64 (x33_1 + 1)), rS, H', ⟨by have := HKy1.out; omega⟩, ⟨(bX BKz1.out)⟩, ⟨(hX HB.out)⟩⟩
def impl_MemOk_1.f (k : Nat) (a0_0 : Int) (a0_1 : Int) (l0_2 : List (S165)) (a0_3 : Int) (l0_4 : List Int) : Option (Bool) := (impl_DescOk.f k a0_0 a0_1 l0_2 a0_3 l0_4).bind fun t102 => (some (!t102))
set_option maxHeartbeats 8000000 in
set_option maxRecDepth 100000 in
theorem impl_MemOk_1.calls (k : Nat) (a0_0 : Int) (a0_1 : Int) (A0_2 : Option Addr) (c0_2 : Nat) (l0_2 : List (S165)) (a0_3 : Int) (A0_4 : Option Addr) (c0_4 : Nat) (l0_4 : List Int) (r : Bool) (w : World) (hr0_2 : Kd.C k165 w A0_2 l0_2.length l0_2) (hc0_2 : l0_2.length ≤ c0_2) (hr0_4 : Kd.C (Kd.int .i64) w A0_4 l0_4.length l0_4) (hc0_4 : l0_4.length ≤ c0_4) (h : impl_MemOk_1.f k a0_0 a0_1 l0_2 a0_3 l0_4 = some r) :
    Calls Tryz.prog 170 #[.agg #[.int .i64 a0_0, .int .i64 a0_1, .slice A0_2 l0_2.length c0_2, .int .i64 a0_3, .slice A0_4 l0_4.length c0_4]] w fun e w' => e = .returned (.bool r) ∧ Below w.heap.size w w' := by
  have hu162 := Tryz.underlying162
  have HR0_2 := aM hr0_2
  have HC0_2 := aM hc0_2
  clear hr0_2 hc0_2
  have HR0_4 := aM hr0_4
  have HC0_4 := aM hc0_4
  clear hr0_4 hc0_4
  have HB := aM (Below.refl w.heap.size w)
  have H := h
  unfold impl_MemOk_1.f at H
  clear h
  replace H := bE H; obtain ⟨t102, A2, H⟩ := H
  obtain rfl := sI H
  go_enter Tryz.func170, Tryz.ntmps170
  go_wp2_with (first | (refine boxE 1 #[.int .i64 a0_0, .int .i64 a0_1, .slice A0_2 l0_2.length c0_2, .int .i64 a0_3, .slice A0_4 l0_4.length c0_4] 162 ?_; intro gbz1 hg wz1 hbox hb; have BKz1 := aM (hbox); have GWz1 := aG hg HB; have GEz1 := aG hg HB; replace HB := aS HB hb; clear hb hbox hg; obtain ⟨hczz1, hczz2, hczz3, hczz4, hczz5, hfzz1, hfzz2, hfzz3, hfzz4, hfzz5⟩ := cZ5 BKz1.out) | (refine goesM 171 4 Tryz.func171 #[.agg #[.int .i64 a0_0, .int .i64 a0_1, .slice A0_2 l0_2.length c0_2, .int .i64 a0_3, .slice A0_4 l0_4.length c0_4]] ?_; refine (impl_DescOk.calls _ _ _ _ _ _ _ _ _ _ _ _ (cC HR0_2.out HB.out) HC0_2.out (cC HR0_4.out HB.out) HC0_4.out A2.out).mono ?_; rintro e wz2 ⟨rfl, hb⟩; refine ⟨_, rfl, ?_⟩; replace BKz1 := aB BKz1 hb; replace HB := aS HB hb; clear hb))
  go_ret
  exact ⟨rE, (hX HB.out)⟩
def impl_Desc_208_170.l0 : Nat → List (S162) → Int → Int → Option (Int)
  | 0, _, _, _ => none
  | k + 1, x0, x7, x8 => if x8 < x7 then (if 0 ≤ x8 then (if x8 < (x0.length : Int) then ((impl_MemOk_1.f k ((rd_T162 x0 x8).f0) ((rd_T162 x0 x8).f1) ((rd_T162 x0 x8).f2) ((rd_T162 x0 x8).f3.f0) ((rd_T162 x0 x8).f3.f1)).bind fun t102 => (if t102 = true then (some x8) else (impl_Desc_208_170.l0 k x0 x7 (wrap64 (x8 + 1))))) else (none)) else (none)) else (some (-1))
def impl_Desc_208_170.f (k : Nat) (l0 : List (S162))  : Option (Int) := impl_Desc_208_170.l0 k l0 (l0.length : Int) 0
set_option maxHeartbeats 8000000 in
set_option maxRecDepth 100000 in
theorem impl_Desc_208_170.calls (k : Nat) (A0 : Option Addr) (c0 : Nat) (l0 : List (S162))  (r : Int) (w : World) (hr0 : Kd.C k162 w A0 l0.length l0) (hc0 : l0.length ≤ c0) (h : impl_Desc_208_170.f k l0 = some r) :
    Calls Tryz.prog 208 #[.slice A0 l0.length c0, .func (.func 170) #[] #[]] w fun e w' => e = .returned (.int .i64 r) ∧ Below w.heap.size w w' := by
  have hu162 := Tryz.underlying162
  have HR0 := aM hr0
  have HC0 := aM hc0
  clear hr0 hc0
  have HB := aM (Below.refl w.heap.size w)
  have H := h
  unfold impl_Desc_208_170.f at H
  clear h
  have H' := aM H
  clear H
  go_enter Tryz.func208, Tryz.ntmps208
  go_wp2
  go_loopg [8] k (fun kq v8 w' => ∃ (x8_1 : Int), v8 = .int .i64 x8_1 ∧ Aside0 (impl_Desc_208_170.l0 kq l0 (l0.length : Int) x8_1 = some r) ∧ Aside0 (kq ≤ k) ∧ Aside0 (Below w.heap.size w w'))
  case atStart => exact ⟨(0), rS, H', ⟨Nat.le_refl _⟩, ⟨(hX HB.out)⟩⟩
  case round =>
    clear H'
    try clear p2
    obtain ⟨x8_1, rfl, HA, HKy1, HB⟩ := hrel
    cases gk with
    | zero => exact absurd HA.out (by simp [impl_Desc_208_170.l0])
    | succ k1 =>
      have H := HA.out
      clear HA
      simp only [impl_Desc_208_170.l0] at H
      by_cases c3 : x8_1 < (l0.length : Int)
      case neg =>
        rw [if_neg c3] at H
        have c3b0 := decide_eq_false c3
        clear c3
        obtain rfl := sI H
        go_wp2
        go_ret
        exact ⟨rE, (hX HB.out)⟩
      rw [if_pos c3] at H
      have c3b0 := decide_eq_true c3
      clear c3
      replace H := ifP H; obtain ⟨c4, H⟩ := H
      have c4b0 := decide_eq_true c4
      clear c4
      replace H := ifP H; obtain ⟨c5, H⟩ := H
      have c5b0 := decide_eq_true c5
      clear c5
      replace H := bE H; obtain ⟨t102, A6, H⟩ := H
      by_cases c7 : t102 = true
      · subst c7
        rw [if_pos rfl] at H
        obtain rfl := sI H
        have px1 : 0 ≤ (x8_1 : Int) := odA
        have qx1 : x8_1 < (l0.length : Int) := odA
        obtain ⟨adx1, Ax1, cx1, Ax2, cx2, ex1, hxx1, hxx2, hxx3, hxx4, hxx5, hlx1, hix1, hlx2, hix2⟩ := at_T162b HR0.out HB.out x8_1 px1 qx1
        cases ex1
        have HRx1 := aM hix1
        have HCx1 := aM hlx1
        clear hix1 hlx1
        have HRx2 := aM hix2
        have HCx2 := aM hlx2
        clear hix2 hlx2
        replace px1 := eq_true px1
        replace qx1 := eq_true qx1
        go_wp2_with (first | ((with_reducible refine Go.Proofs.YtmljebgideecjaaGreatZ.gate_calleeT (t := 11) rfl ?_); refine Go.Proofs.YtmljebgideecjaaGreatZ.goesT_ (some 16) 11 rfl rfl Tryz.func170 (by kernel_rfl) rfl #[.agg #[.int .i64 ((rd_T162 l0 x8_1).f0), .int .i64 ((rd_T162 l0 x8_1).f1), .slice Ax1 ((rd_T162 l0 x8_1).f2).length cx1, .int .i64 ((rd_T162 l0 x8_1).f3.f0), .slice Ax2 ((rd_T162 l0 x8_1).f3.f1).length cx2]] rfl rfl (by (try simp only [List.map_toArray, List.map_cons, List.map_nil]); first | done | rfl | (simp only [List.length_drop, List.length_take]; rfl)) ?_; (with_reducible refine (impl_MemOk_1.calls k1 ((rd_T162 l0 x8_1).f0) ((rd_T162 l0 x8_1).f1) _ _ ((rd_T162 l0 x8_1).f2) ((rd_T162 l0 x8_1).f3.f0) _ _ ((rd_T162 l0 x8_1).f3.f1) true _ ?side1 ?side2 ?side3 ?side4 A6.out).mono ?_); (case side1 => repeat (first | exact (Kd.C_below HRx1.out HB.out) | (with_reducible refine Kd.C_alloc ?_ _) | (with_reducible refine Kd.C_drewN ?_ _) | (with_reducible refine Kd.C_drew ?_))); (case side2 => exact HCx1.out); (case side3 => repeat (first | exact (Kd.C_below HRx2.out HB.out) | (with_reducible refine Kd.C_alloc ?_ _) | (with_reducible refine Kd.C_drewN ?_ _) | (with_reducible refine Kd.C_drew ?_))); (case side4 => exact HCx2.out); rintro e wx1 ⟨rfl, hb⟩; refine ⟨_, rfl, ?_⟩; replace HB := aS HB hb; clear hb))
        go_ret
        exact ⟨rE, (hX HB.out)⟩
      replace c7 := Bool.eq_false_iff.mpr c7
      subst c7
      rw [if_neg nft] at H
      have H' := aM H
      clear H
      have px1 : 0 ≤ (x8_1 : Int) := odA
      have qx1 : x8_1 < (l0.length : Int) := odA
      obtain ⟨adx1, Ax1, cx1, Ax2, cx2, ex1, hxx1, hxx2, hxx3, hxx4, hxx5, hlx1, hix1, hlx2, hix2⟩ := at_T162b HR0.out HB.out x8_1 px1 qx1
      cases ex1
      have HRx1 := aM hix1
      have HCx1 := aM hlx1
      clear hix1 hlx1
      have HRx2 := aM hix2
      have HCx2 := aM hlx2
      clear hix2 hlx2
      replace px1 := eq_true px1
      replace qx1 := eq_true qx1
      go_wp2_with (first | ((with_reducible refine Go.Proofs.YtmljebgideecjaaGreatZ.gate_calleeT (t := 11) rfl ?_); refine Go.Proofs.YtmljebgideecjaaGreatZ.goesT_ (some 16) 11 rfl rfl Tryz.func170 (by kernel_rfl) rfl #[.agg #[.int .i64 ((rd_T162 l0 x8_1).f0), .int .i64 ((rd_T162 l0 x8_1).f1), .slice Ax1 ((rd_T162 l0 x8_1).f2).length cx1, .int .i64 ((rd_T162 l0 x8_1).f3.f0), .slice Ax2 ((rd_T162 l0 x8_1).f3.f1).length cx2]] rfl rfl (by (try simp only [List.map_toArray, List.map_cons, List.map_nil]); first | done | rfl | (simp only [List.length_drop, List.length_take]; rfl)) ?_; (with_reducible refine (impl_MemOk_1.calls k1 ((rd_T162 l0 x8_1).f0) ((rd_T162 l0 x8_1).f1) _ _ ((rd_T162 l0 x8_1).f2) ((rd_T162 l0 x8_1).f3.f0) _ _ ((rd_T162 l0 x8_1).f3.f1) false _ ?side1 ?side2 ?side3 ?side4 A6.out).mono ?_); (case side1 => repeat (first | exact (Kd.C_below HRx1.out HB.out) | (with_reducible refine Kd.C_alloc ?_ _) | (with_reducible refine Kd.C_drewN ?_ _) | (with_reducible refine Kd.C_drew ?_))); (case side2 => exact HCx1.out); (case side3 => repeat (first | exact (Kd.C_below HRx2.out HB.out) | (with_reducible refine Kd.C_alloc ?_ _) | (with_reducible refine Kd.C_drewN ?_ _) | (with_reducible refine Kd.C_drew ?_))); (case side4 => exact HCx2.out); rintro e wx1 ⟨rfl, hb⟩; refine ⟨_, rfl, ?_⟩; replace HB := aS HB hb; clear hb))
      go_roundg k1
      case measure => have := HKy1.out; omega
      case rel => exact ⟨(wrap64 (x8_1 + 1)), rS, H', ⟨by have := HKy1.out; omega⟩, ⟨(hX HB.out)⟩⟩
def impl_Desc_169_170.f (k : Nat) (l0 : List (S162))  : Option (Bool) := (impl_Desc_208_170.f k l0).bind fun t101 => (some (decide (t101 ≥ 0)))
set_option maxHeartbeats 8000000 in
set_option maxRecDepth 100000 in
theorem impl_Desc_169_170.calls (k : Nat) (A0 : Option Addr) (c0 : Nat) (l0 : List (S162))  (r : Bool) (w : World) (hr0 : Kd.C k162 w A0 l0.length l0) (hc0 : l0.length ≤ c0) (h : impl_Desc_169_170.f k l0 = some r) :
    Calls Tryz.prog 169 #[.slice A0 l0.length c0, .func (.func 170) #[] #[]] w fun e w' => e = .returned (.bool r) ∧ Below w.heap.size w w' := by
  have HR0 := aM hr0
  have HC0 := aM hc0
  clear hr0 hc0
  have HB := aM (Below.refl w.heap.size w)
  have H := h
  unfold impl_Desc_169_170.f at H
  clear h
  replace H := bE H; obtain ⟨t101, A3, H⟩ := H
  obtain rfl := sI H
  go_enter Tryz.func169, Tryz.ntmps169
  go_wp2_with (first | (refine goesM 208 7 Tryz.func208 #[.slice A0 l0.length c0, .func (.func 170) #[] #[]] ?_; refine (impl_Desc_208_170.calls _ _ _ _ _ _ (cX HR0.out) HC0.out A3.out).mono ?_; rintro e wz1 ⟨rfl, hb⟩; refine ⟨_, rfl, ?_⟩; replace HB := aS HB hb; clear hb))
  go_ret
  exact ⟨rE, (hX HB.out)⟩
def impl_WordOk.f (a0_0 : Int) (a0_1 : Int) (a0_2 : Int) (a1 : Int) : Option (Bool) := if a0_1 = 0 then ((impl_isWordNum.f a0_0).bind fun t102 => (if t102 = true then (some (a0_2 == 0)) else (some false))) else (if a0_0 = 0 then ((impl_from.f a0_1 1 a1).bind fun t103 => (if t103 = true then ((impl_from.f a0_2 1 1000000).bind fun t104 => (some t104)) else (some false))) else (some false))
set_option maxHeartbeats 8000000 in
set_option maxRecDepth 100000 in
theorem impl_WordOk.calls (a0_0 : Int) (a0_1 : Int) (a0_2 : Int) (a1 : Int) (r : Bool) (w : World) (h : impl_WordOk.f a0_0 a0_1 a0_2 a1 = some r) :
    Calls Tryz.prog 172 #[.agg #[.int .i64 a0_0, .int .i64 a0_1, .int .i64 a0_2], .int .i64 a1] w fun e w' => e = .returned (.bool r) ∧ Below w.heap.size w w' := by
  have hu140 := Tryz.underlying140
  have HB := aM (Below.refl w.heap.size w)
  have H := h
  unfold impl_WordOk.f at H
  clear h
  go_enter Tryz.func172, Tryz.ntmps172
  go_wp2_with (first | (refine boxE 2 #[.int .i64 a0_0, .int .i64 a0_1, .int .i64 a0_2] 140 ?_; intro gbz1 hg wz1 hbox hb; have BKz1 := aM (hbox); have GWz1 := aG hg HB; have GEz1 := aG hg HB; replace HB := aS HB hb; clear hb hbox hg; obtain ⟨hczz1, hczz2, hczz3, hfzz1, hfzz2, hfzz3⟩ := cZ3 BKz1.out; refine Stop.out ?_))
  refine ⟨?_⟩
  by_cases c3 : a0_1 = 0
  · rw [if_pos c3] at H
    obtain ⟨c3b0, c3b1⟩ := eqT c3
    clear c3
    replace H := bE H; obtain ⟨t102, A4, H⟩ := H
    by_cases c5 : t102 = true
    · subst c5
      rw [if_pos rfl] at H
      obtain rfl := sI H
      go_wp2_with (first | (refine goesM 183 10 Tryz.func183 #[.int .i64 a0_0] ?_; refine (impl_isWordNum.calls _ _ _ A4.out).mono ?_; rintro e w' ⟨rfl, ⟨nd, rfl⟩⟩; refine ⟨_, rfl, ?_⟩))
      go_ret
      exact ⟨rE, (hX HB.out)⟩
    replace c5 := Bool.eq_false_iff.mpr c5
    subst c5
    rw [if_neg nft] at H
    obtain rfl := sI H
    go_wp2_with (first | (refine goesM 183 10 Tryz.func183 #[.int .i64 a0_0] ?_; refine (impl_isWordNum.calls _ _ _ A4.out).mono ?_; rintro e w' ⟨rfl, ⟨nd, rfl⟩⟩; refine ⟨_, rfl, ?_⟩))
    go_ret
    exact ⟨rE, (hX HB.out)⟩
  rw [if_neg c3] at H
  obtain ⟨c3b0, c3b1⟩ := eqF c3
  by_cases c10 : a0_0 = 0
  case neg =>
    rw [if_neg c10] at H
    obtain ⟨c10b0, c10b1⟩ := eqF c10
    obtain rfl := sI H
    go_wp2
    go_ret
    exact ⟨rE, (hX HB.out)⟩
  rw [if_pos c10] at H
  obtain ⟨c10b0, c10b1⟩ := eqT c10
  clear c10
  replace H := bE H; obtain ⟨t103, A11, H⟩ := H
  by_cases c12 : t103 = true
  case neg =>
    replace c12 := Bool.eq_false_iff.mpr c12
    subst c12
    rw [if_neg nft] at H
    obtain rfl := sI H
    go_wp2_with (first | (go_at_call 102; (with_reducible refine (impl_from.calls _ _ _ _ _ A11.out).mono ?_); rintro e w' ⟨rfl, ⟨nd, rfl⟩⟩))
    go_ret
    exact ⟨rE, (hX HB.out)⟩
  subst c12
  rw [if_pos rfl] at H
  replace H := bE H; obtain ⟨t104, A13, H⟩ := H
  obtain rfl := sI H
  go_wp2_with (first | (go_at_call 102; (with_reducible refine (impl_from.calls _ _ _ _ _ A11.out).mono ?_); rintro e w' ⟨rfl, ⟨nd, rfl⟩⟩) | (go_at_call 102; (with_reducible refine (impl_from.calls _ _ _ _ _ A13.out).mono ?_); rintro e w' ⟨rfl, ⟨nd, rfl⟩⟩))
  go_ret
  exact ⟨rE, (hX HB.out)⟩
def impl_Entries.l0 : Nat → Int → List (S165) → Int → Int → Option (Int × Int × Int × Bool)
  | 0, _, _, _, _ => none
  | k + 1, x1, x9, x10, x11 => if x11 < x10 then (if 0 ≤ x11 then (if x11 < (x9.length : Int) then (if ((rd_T165 x9 x11).f0) = x1 then (some ((rd_T165 x9 x11).f0, (rd_T165 x9 x11).f1, (rd_T165 x9 x11).f2, true)) else (impl_Entries.l0 k x1 x9 x10 (wrap64 (x11 + 1)))) else (none)) else (none)) else (some (0, 0, 0, false))
def impl_Entries.f (k : Nat) (a0_0 : Int) (a0_1 : Int) (l0_2 : List (S165)) (a0_3 : Int) (l0_4 : List Int) (a1 : Int) : Option (Int × Int × Int × Bool) := impl_Entries.l0 k a1 l0_2 (l0_2.length : Int) 0
set_option maxHeartbeats 8000000 in
set_option maxRecDepth 100000 in
theorem impl_Entries.calls (k : Nat) (a0_0 : Int) (a0_1 : Int) (A0_2 : Option Addr) (c0_2 : Nat) (l0_2 : List (S165)) (a0_3 : Int) (A0_4 : Option Addr) (c0_4 : Nat) (l0_4 : List Int) (a1 : Int) (r1 : Int) (r2 : Int) (r3 : Int) (r4 : Bool) (w : World) (hr0_2 : Kd.C k165 w A0_2 l0_2.length l0_2) (hc0_2 : l0_2.length ≤ c0_2) (hr0_4 : Kd.C (Kd.int .i64) w A0_4 l0_4.length l0_4) (hc0_4 : l0_4.length ≤ c0_4) (h : impl_Entries.f k a0_0 a0_1 l0_2 a0_3 l0_4 a1 = some (r1, r2, r3, r4)) :
    Calls Tryz.prog 173 #[.agg #[.int .i64 a0_0, .int .i64 a0_1, .slice A0_2 l0_2.length c0_2, .int .i64 a0_3, .slice A0_4 l0_4.length c0_4], .int .i64 a1] w fun e w' => e = .returned (.tuple #[.agg #[.int .i64 r1, .int .i64 r2, .int .i64 r3], .bool r4]) ∧ Below w.heap.size w w' := by
  have hu162 := Tryz.underlying162
  have hu165 := Tryz.underlying165
  have HR0_2 := aM hr0_2
  have HC0_2 := aM hc0_2
  clear hr0_2 hc0_2
  have HR0_4 := aM hr0_4
  have HC0_4 := aM hc0_4
  clear hr0_4 hc0_4
  have HB := aM (Below.refl w.heap.size w)
  have H := h
  unfold impl_Entries.f at H
  clear h
  have H' := aM H
  clear H
  go_enter Tryz.func173, Tryz.ntmps173
  go_wp2_with (first | (refine boxE 2 #[.int .i64 a0_0, .int .i64 a0_1, .slice A0_2 l0_2.length c0_2, .int .i64 a0_3, .slice A0_4 l0_4.length c0_4] 162 ?_; intro gbz1 hg wz1 hbox hb; have BKz1 := aM (hbox); have GWz1 := aG hg HB; have GEz1 := aG hg HB; replace HB := aS HB hb; clear hb hbox hg) | (refine boxE 4 #[.int .i64 0, .int .i64 0, .int .i64 0] 165 ?_; intro gbz2 hg wz2 hbox hb; have BKz2 := aM (hbox); have GWz2 := aG hg HB; have GEz2 := aG hg HB; have NBz1 := aL hg BKz1; have NBz2 := aR hg BKz1; replace BKz1 := aB BKz1 hb; replace HB := aS HB hb; clear hb hbox hg; have hnbz1 := NBz1.out; have hncz1 := NBz2.out; obtain ⟨hczz1, hczz2, hczz3, hczz4, hczz5, hfzz1, hfzz2, hfzz3, hfzz4, hfzz5⟩ := cZ5 BKz1.out))
  go_loopg [11] k (fun kq v11 w' => ∃ (x11_1 : Int) (x103000_1 : Int) (x103001_1 : Int) (x103002_1 : Int), v11 = .int .i64 x11_1 ∧ Aside0 (impl_Entries.l0 kq a1 l0_2 (l0_2.length : Int) x11_1 = some (r1, r2, r3, r4)) ∧ Aside0 (kq ≤ k) ∧ Aside0 (w'.heap[gbz1]? = some (.cells #[.int .i64 a0_0, .int .i64 a0_1, (.slice A0_2 l0_2.length c0_2), .int .i64 a0_3, (.slice A0_4 l0_4.length c0_4)] 162 (0, 0))) ∧ Aside0 (w'.heap[gbz2]? = some (.cells #[.int .i64 x103000_1, .int .i64 x103001_1, .int .i64 x103002_1] 165 (0, 0))) ∧ Aside0 (Below w.heap.size w w'))
  case atStart => exact ⟨(0), (0), (0), (0), rS, H', ⟨Nat.le_refl _⟩, ⟨(bX BKz1.out)⟩, ⟨(bX BKz2.out)⟩, ⟨(hX HB.out)⟩⟩
  case round =>
    clear H'
    try clear p2
    try clear hczz1 hczz2 hczz3 hczz4 hczz5 hfzz1 hfzz2 hfzz3 hfzz4 hfzz5
    obtain ⟨x11_1, x103000_1, x103001_1, x103002_1, rfl, HA, HKy1, BKz1, BKz2, HB⟩ := hrel
    cases gk with
    | zero => exact absurd HA.out (by simp [impl_Entries.l0])
    | succ k1 =>
      have H := HA.out
      clear HA
      simp only [impl_Entries.l0] at H
      by_cases c7 : x11_1 < (l0_2.length : Int)
      case neg =>
        rw [if_neg c7] at H
        have c7b0 := decide_eq_false c7
        clear c7
        simp only [Option.some.injEq, Prod.mk.injEq] at H
        obtain ⟨rfl, rfl, rfl, rfl⟩ := H
        have hnbx1 := NBz2.out
        have hncx1 := NBz1.out
        obtain ⟨hczx1, hczx2, hczx3, hfzx1, hfzx2, hfzx3⟩ := cZ3 BKz2.out
        go_wp2
        refine bodyPost_ret (results_ct rfl _ _ gbz2 165 #[.int .i64 0, .int .i64 0, .int .i64 0] (0, 0) _ rfl (bP BKz2.out) Tryz.underlying165 rfl (by kernel_rfl)) rfl ?_
        exact ⟨rE, (hX HB.out)⟩
      rw [if_pos c7] at H
      have c7b0 := decide_eq_true c7
      clear c7
      replace H := ifP H; obtain ⟨c8, H⟩ := H
      have c8b0 := decide_eq_true c8
      clear c8
      replace H := ifP H; obtain ⟨c9, H⟩ := H
      have c9b0 := decide_eq_true c9
      clear c9
      by_cases c10 : ((rd_T165 l0_2 x11_1).f0) = a1
      case neg =>
        rw [if_neg c10] at H
        obtain ⟨c10b0, c10b1⟩ := eqF c10
        have H' := aM H
        clear H
        have px1 : 0 ≤ (x11_1 : Int) := odA
        have qx1 : x11_1 < (l0_2.length : Int) := odA
        obtain ⟨adx1, ex1, hxx1, hxx2, hxx3⟩ := at_T165b HR0_2.out HB.out x11_1 px1 qx1
        cases ex1
        replace px1 := eq_true px1
        replace qx1 := eq_true qx1
        go_wp2_with (first | (refine boxE 7 #[.int .i64 0, .int .i64 0, .int .i64 0] 165 ?_; intro gbx1 hg wx1 hbox hb; have BKx1 := aM (hbox); have GWx1 := aG hg HB; have GEx1 := aG hg HB; have NBx1 := aL hg BKz1; have NBx2 := aR hg BKz1; have NBx3 := aL hg BKz2; have NBx4 := aR hg BKz2; replace BKz1 := aB BKz1 hb; replace BKz2 := aB BKz2 hb; replace HB := aS HB hb; clear hb hbox hg; have hnbx1 := NBx2.out; have hncx1 := NBx1.out; have hnbx2 := NBx4.out; have hncx2 := NBx3.out; obtain ⟨hczx1, hczx2, hczx3, hfzx1, hfzx2, hfzx3⟩ := cZ3 BKx1.out))
        go_roundg k1
        case measure => have := HKy1.out; omega
        case rel => exact ⟨(wrap64 (x11_1 + 1)), (x103000_1), (x103001_1), (x103002_1), rS, H', ⟨by have := HKy1.out; omega⟩, ⟨(bF BKz1.out)⟩, ⟨(bF BKz2.out)⟩, ⟨(hX HB.out)⟩⟩
      rw [if_pos c10] at H
      obtain ⟨c10b0, c10b1⟩ := eqT c10
      clear c10
      simp only [Option.some.injEq, Prod.mk.injEq] at H
      obtain ⟨rfl, rfl, rfl, rfl⟩ := H
      have px1 : 0 ≤ (x11_1 : Int) := odA
      have qx1 : x11_1 < (l0_2.length : Int) := odA
      obtain ⟨adx1, ex1, hxx1, hxx2, hxx3⟩ := at_T165b HR0_2.out HB.out x11_1 px1 qx1
      cases ex1
      replace px1 := eq_true px1
      replace qx1 := eq_true qx1
      go_wp2_with (first | (refine boxE 7 #[.int .i64 0, .int .i64 0, .int .i64 0] 165 ?_; intro gbx1 hg wx1 hbox hb; have BKx1 := aM (hbox); have GWx1 := aG hg HB; have GEx1 := aG hg HB; have NBx1 := aL hg BKz1; have NBx2 := aR hg BKz1; have NBx3 := aL hg BKz2; have NBx4 := aR hg BKz2; replace BKz1 := aB BKz1 hb; replace BKz2 := aB BKz2 hb; replace HB := aS HB hb; clear hb hbox hg; have hnbx1 := NBx2.out; have hncx1 := NBx1.out; have hnbx2 := NBx4.out; have hncx2 := NBx3.out; obtain ⟨hczx1, hczx2, hczx3, hfzx1, hfzx2, hfzx3⟩ := cZ3 BKx1.out; have hnbx3 := NBz2.out; have hncx3 := NBz1.out; obtain ⟨hczx4, hczx5, hczx6, hfzx4, hfzx5, hfzx6⟩ := cZ3 BKz2.out))
      refine bodyPost_ret (results_ct rfl _ _ gbz2 165 #[.int .i64 ((rd_T165 l0_2 x11_1).f0), .int .i64 ((rd_T165 l0_2 x11_1).f1), .int .i64 ((rd_T165 l0_2 x11_1).f2)] (0, 0) _ rfl (bP BKz2.out) Tryz.underlying165 rfl (by kernel_rfl)) rfl ?_
      exact ⟨rE, (hX HB.out)⟩
mutual
def impl_MemOk.j0 : Nat → Bool → List (S140) → List (S162) → Option (Bool)
  | 0, _, _, _ => none
  | k + 1, x23, x102000, x102001 => if x23 = true then (some false) else (impl_MemOk.l0 k x102000 (x102000.length : Int) 0 x102000 x102001)
def impl_MemOk.l0 : Nat → List (S140) → Int → Int → List (S140) → List (S162) → Option (Bool)
  | 0, _, _, _, _, _ => none
  | k + 1, x25, x26, x27, x102000, x102001 => if x27 < x26 then (if 0 ≤ x27 then (if x27 < (x25.length : Int) then ((impl_WordOk.f ((rd_T140 x25 x27).f0) ((rd_T140 x25 x27).f1) ((rd_T140 x25 x27).f2) (x102001.length : Int)).bind fun t106 => (if t106 = true then (if ((rd_T140 x25 x27).f1) = 0 then (impl_MemOk.l0 k x25 x26 (wrap64 (x27 + 1)) x102000 x102001) else (if 0 ≤ (wrap64 (((rd_T140 x25 x27).f1) - 1)) then (if (wrap64 (((rd_T140 x25 x27).f1) - 1)) < (x102001.length : Int) then ((impl_Entries.f k ((rd_T162 x102001 (wrap64 (((rd_T140 x25 x27).f1) - 1))).f0) ((rd_T162 x102001 (wrap64 (((rd_T140 x25 x27).f1) - 1))).f1) ((rd_T162 x102001 (wrap64 (((rd_T140 x25 x27).f1) - 1))).f2) ((rd_T162 x102001 (wrap64 (((rd_T140 x25 x27).f1) - 1))).f3.f0) ((rd_T162 x102001 (wrap64 (((rd_T140 x25 x27).f1) - 1))).f3.f1) x27).bind fun bt109 => (if bt109.2.2.2 = true then (if ((rd_T162 x102001 (wrap64 (((rd_T140 x25 x27).f1) - 1))).f0) = ((rd_T140 x25 x27).f2) then (impl_MemOk.l0 k x25 x26 (wrap64 (x27 + 1)) x102000 x102001) else (some false)) else (some false))) else (none)) else (none))) else (some false))) else (none)) else (none)) else (some true)
end
def impl_MemOk.f (k : Nat) (l0_0 : List (S140)) (l0_1 : List (S162)) : Option (Bool) := if (l0_0.length : Int) = 20 then ((impl_from.f (l0_1.length : Int) 1 4).bind fun t102 => (if t102 = true then ((impl_Desc_169_170.f k l0_1).bind fun t103 => (impl_MemOk.j0 k t103 l0_0 l0_1)) else (impl_MemOk.j0 k true l0_0 l0_1))) else (impl_MemOk.j0 k true l0_0 l0_1)
set_option maxHeartbeats 8000000 in
set_option maxRecDepth 100000 in
theorem impl_MemOk.calls (k : Nat) (A0_0 : Option Addr) (c0_0 : Nat) (l0_0 : List (S140)) (A0_1 : Option Addr) (c0_1 : Nat) (l0_1 : List (S162)) (r : Bool) (w : World) (hr0_0 : Kd.C k140 w A0_0 l0_0.length l0_0) (hc0_0 : l0_0.length ≤ c0_0) (hr0_1 : Kd.C k162 w A0_1 l0_1.length l0_1) (hc0_1 : l0_1.length ≤ c0_1) (h : impl_MemOk.f k l0_0 l0_1 = some r) :
    Calls Tryz.prog 101 #[.agg #[.slice A0_0 l0_0.length c0_0, .slice A0_1 l0_1.length c0_1]] w fun e w' => e = .returned (.bool r) ∧ Below w.heap.size w w' := by
  have hu38 := Tryz.underlying38
  have hu140 := Tryz.underlying140
  have hu162 := Tryz.underlying162
  have hu165 := Tryz.underlying165
  have HR0_0 := aM hr0_0
  have HC0_0 := aM hc0_0
  clear hr0_0 hc0_0
  have HR0_1 := aM hr0_1
  have HC0_1 := aM hc0_1
  clear hr0_1 hc0_1
  have HB := aM (Below.refl w.heap.size w)
  have H := h
  unfold impl_MemOk.f at H
  clear h
  have HC2 := aM H
  clear H
  go_enter Tryz.func101, Tryz.ntmps101
  go_upto_region 1 with (first | ((with_reducible refine gate_dst (N := 1) rfl ?_); (try (refine gate_guard (by rfl) ?_; dsimp only)); refine boxF 1 #[.slice A0_0 l0_0.length c0_0, .slice A0_1 l0_1.length c0_1] 38 ?_; intro gbz1 hg wz1 hbox hb; have BKz1 := aM (hbox); have GWz1 := aG hg HB; have GEz1 := aG hg HB; replace HB := aS HB hb; clear hb hbox hg))
  (try simp only [Act.put, List.setIfInBounds_toArray, List.set_cons_zero, List.set_cons_succ])
  go_cut [23] (fun vz1 wc => ∃ (kq : Nat) (x23_1 : Bool), vz1 = .bool x23_1 ∧ Aside0 (impl_MemOk.j0 kq x23_1 l0_0 l0_1 = some r) ∧ Aside0 (kq ≤ k) ∧ Aside0 (wc.heap[gbz1]? = some (.cells #[(.slice A0_0 l0_0.length c0_0), (.slice A0_1 l0_1.length c0_1)] 38 (0, 0))) ∧ Aside0 (Below w.heap.size w wc))
  case first =>
    have H := HC2.out
    clear HC2
    by_cases c4 : (l0_0.length : Int) = 20
    case neg =>
      rw [if_neg c4] at H
      obtain ⟨c4b0, c4b1⟩ := eqF c4
      (first | rw [c4b0] | (simp only [i64_w, i32_w]; rw [c4b0]) | skip)
      have H' := aM H
      clear H
      obtain ⟨hczy1, hczy2, hfzy1, hfzy2⟩ := cZ2 BKz1.out
      go_wp2
      go_meet
      case rel => exact ⟨_, (true), rS, H', ⟨by first | omega | exact Nat.le_refl _⟩, ⟨(bX BKz1.out)⟩, ⟨(hX HB.out)⟩⟩
    rw [if_pos c4] at H
    obtain ⟨c4b0, c4b1⟩ := eqT c4
    clear c4
    (first | rw [c4b0] | (simp only [i64_w, i32_w]; rw [c4b0]) | skip)
    replace H := bE H; obtain ⟨t102, A5, H⟩ := H
    by_cases c6 : t102 = true
    case neg =>
      replace c6 := Bool.eq_false_iff.mpr c6
      subst c6
      rw [if_neg nft] at H
      have H' := aM H
      clear H
      obtain ⟨hczy1, hczy2, hfzy1, hfzy2⟩ := cZ2 BKz1.out
      go_wp2_with (first | (go_at_call 102; (with_reducible refine (impl_from.calls _ _ _ _ _ A5.out).mono ?_); rintro e w' ⟨rfl, ⟨nd, rfl⟩⟩))
      go_meet
      case rel => exact ⟨_, (true), rS, H', ⟨by first | omega | exact Nat.le_refl _⟩, ⟨(bX BKz1.out)⟩, ⟨(hX HB.out)⟩⟩
    subst c6
    rw [if_pos rfl] at H
    replace H := bE H; obtain ⟨t103, A7, H⟩ := H
    have H' := aM H
    clear H
    obtain ⟨hczy1, hczy2, hfzy1, hfzy2⟩ := cZ2 BKz1.out
    go_wp2_with (first | (go_at_call 102; (with_reducible refine (impl_from.calls _ _ _ _ _ A5.out).mono ?_); rintro e w' ⟨rfl, ⟨nd, rfl⟩⟩) | (go_at_call 169; (with_reducible refine (impl_Desc_169_170.calls _ _ _ _ _ _ (cC HR0_1.out HB.out) HC0_1.out A7.out).mono ?_); rintro e wy1 ⟨rfl, hb⟩; replace BKz1 := aB BKz1 hb; replace HB := aS HB hb; clear hb))
    go_meet
    case rel => exact ⟨_, (t103), rS, H', ⟨by first | omega | exact Nat.le_refl _⟩, ⟨(bX BKz1.out)⟩, ⟨(hX HB.out)⟩⟩
  case rest =>
    clear HC2
    try clear p2
    obtain ⟨kq, x23_1, rfl, HA, HJy1, BKz1, HB⟩ := hcut
    cases kq with
    | zero => exact absurd HA.out (by simp [impl_MemOk.j0])
    | succ kj1 =>
      have H := HA.out
      clear HA
      simp only [impl_MemOk.j0] at H
      by_cases c12 : x23_1 = true
      · subst c12
        rw [if_pos rfl] at H
        obtain rfl := sI H
        go_wp2
        go_ret
        exact ⟨rE, (hX HB.out)⟩
      replace c12 := Bool.eq_false_iff.mpr c12
      subst c12
      rw [if_neg nft] at H
      have H' := aM H
      clear H
      obtain ⟨hczx1, hczx2, hfzx1, hfzx2⟩ := cZ2 BKz1.out
      go_wp2
      go_loopg [27] kj1 (fun kq v27 w' => ∃ (x27_2 : Int), v27 = .int .i64 x27_2 ∧ Aside0 (impl_MemOk.l0 kq l0_0 (l0_0.length : Int) x27_2 l0_0 l0_1 = some r) ∧ Aside0 (kq ≤ kj1) ∧ Aside0 (w'.heap[gbz1]? = some (.cells #[(.slice A0_0 l0_0.length c0_0), (.slice A0_1 l0_1.length c0_1)] 38 (0, 0))) ∧ Aside0 (Below w.heap.size w w'))
      case atStart => exact ⟨(0), rS, H', ⟨Nat.le_refl _⟩, ⟨(bX BKz1.out)⟩, ⟨(hX HB.out)⟩⟩
      case round =>
        clear H'
        try clear p2
        try clear c12
        try clear hczx1 hczx2 hfzx1 hfzx2
        obtain ⟨x27_2, rfl, HA, HKw1, BKz1, HB⟩ := hrel
        cases gk with
        | zero => exact absurd HA.out (by simp [impl_MemOk.l0])
        | succ k2 =>
          have H := HA.out
          clear HA
          simp only [impl_MemOk.l0] at H
          by_cases c14 : x27_2 < (l0_0.length : Int)
          case neg =>
            rw [if_neg c14] at H
            have c14b0 := decide_eq_false c14
            clear c14
            obtain rfl := sI H
            go_wp2
            go_ret
            exact ⟨rE, (hX HB.out)⟩
          rw [if_pos c14] at H
          have c14b0 := decide_eq_true c14
          clear c14
          replace H := ifP H; obtain ⟨c15, H⟩ := H
          have c15b0 := decide_eq_true c15
          clear c15
          replace H := ifP H; obtain ⟨c16, H⟩ := H
          have c16b0 := decide_eq_true c16
          clear c16
          replace H := bE H; obtain ⟨t106, A17, H⟩ := H
          have pv1 : 0 ≤ (x27_2 : Int) := odA
          have qv1 : x27_2 < (l0_0.length : Int) := odA
          obtain ⟨adv1, ev1, hxv1, hxv2, hxv3⟩ := at_T140b HR0_0.out HB.out x27_2 pv1 qv1
          cases ev1
          replace pv1 := eq_true pv1
          replace qv1 := eq_true qv1
          go_wp2_with (first | ((with_reducible refine gate_dst (N := 4) rfl ?_); (try (refine gate_guard (by rfl) ?_; dsimp only)); refine boxF 4 #[.int .i64 0, .int .i64 0, .int .i64 0] 140 ?_; intro gbv1 hg wv1 hbox hb; have BKv1 := aM (hbox); have GWv1 := aG hg HB; have GEv1 := aG hg HB; have NBv1 := aL hg BKz1; have NBv2 := aR hg BKz1; replace BKz1 := aB BKz1 hb; replace HB := aS HB hb; clear hb hbox hg; have hnbv1 := NBv2.out; have hncv1 := NBv1.out; obtain ⟨hczv1, hczv2, hczv3, hfzv1, hfzv2, hfzv3⟩ := cZ3 BKv1.out; obtain ⟨hczv4, hczv5, hfzv4, hfzv5⟩ := cZ2 BKz1.out; refine Stop.out ?_))
          refine ⟨?_⟩
          by_cases c18 : t106 = true
          case neg =>
            replace c18 := Bool.eq_false_iff.mpr c18
            subst c18
            rw [if_neg nft] at H
            obtain rfl := sI H
            go_wp2_with (first | (refine goesM 172 36 Tryz.func172 #[.agg #[.int .i64 ((rd_T140 l0_0 x27_2).f0), .int .i64 ((rd_T140 l0_0 x27_2).f1), .int .i64 ((rd_T140 l0_0 x27_2).f2)], .int .i64 (l0_1.length : Int)] ?_; refine (impl_WordOk.calls _ _ _ _ _ _ A17.out).mono ?_; rintro e wv2 ⟨rfl, hb⟩; refine ⟨_, rfl, ?_⟩; replace BKz1 := aF BKz1 hb; replace BKv1 := aM (blk_below (g := gbv1) (o := .cells #[.int .i64 ((rd_T140 l0_0 x27_2).f0), .int .i64 ((rd_T140 l0_0 x27_2).f1), .int .i64 ((rd_T140 l0_0 x27_2).f2)] 140 (0, 0)) (bP BKv1.out) hb); replace HB := aS HB hb; clear hb))
            go_ret
            exact ⟨rE, (hX HB.out)⟩
          subst c18
          rw [if_pos rfl] at H
          by_cases c19 : ((rd_T140 l0_0 x27_2).f1) = 0
          · rw [if_pos c19] at H
            obtain ⟨c19b0, c19b1⟩ := eqT c19
            clear c19
            have H' := aM H
            clear H
            go_wp2_with (first | (refine goesM 172 36 Tryz.func172 #[.agg #[.int .i64 ((rd_T140 l0_0 x27_2).f0), .int .i64 ((rd_T140 l0_0 x27_2).f1), .int .i64 ((rd_T140 l0_0 x27_2).f2)], .int .i64 (l0_1.length : Int)] ?_; refine (impl_WordOk.calls _ _ _ _ _ _ A17.out).mono ?_; rintro e wv2 ⟨rfl, hb⟩; refine ⟨_, rfl, ?_⟩; replace BKz1 := aF BKz1 hb; replace BKv1 := aM (blk_below (g := gbv1) (o := .cells #[.int .i64 ((rd_T140 l0_0 x27_2).f0), .int .i64 ((rd_T140 l0_0 x27_2).f1), .int .i64 ((rd_T140 l0_0 x27_2).f2)] 140 (0, 0)) (bP BKv1.out) hb); replace HB := aS HB hb; clear hb; obtain ⟨hczv6, hczv7, hczv8, hfzv6, hfzv7, hfzv8⟩ := cZ3 BKv1.out))
            go_roundg k2
            case measure => have := HJy1.out; have := HKw1.out; omega
            case rel => exact ⟨(wrap64 (x27_2 + 1)), rS, H', ⟨by have := HJy1.out; have := HKw1.out; omega⟩, ⟨(bX BKz1.out)⟩, ⟨(hX HB.out)⟩⟩
          rw [if_neg c19] at H
          obtain ⟨c19b0, c19b1⟩ := eqF c19
          obtain ⟨ji26, hji26⟩ : ∃ j_ : Int, (wrap64 (((rd_T140 l0_0 x27_2).f1) - 1)) = j_ := ⟨_, rfl⟩
          replace H : (if 0 ≤ (ji26) then (if (ji26) < (l0_1.length : Int) then ((impl_Entries.f k2 ((rd_T162 l0_1 (ji26)).f0) ((rd_T162 l0_1 (ji26)).f1) ((rd_T162 l0_1 (ji26)).f2) ((rd_T162 l0_1 (ji26)).f3.f0) ((rd_T162 l0_1 (ji26)).f3.f1) x27_2).bind fun bt109 => (if bt109.2.2.2 = true then (if ((rd_T162 l0_1 (ji26)).f0) = ((rd_T140 l0_0 x27_2).f2) then (impl_MemOk.l0 k2 l0_0 (l0_0.length : Int) (wrap64 (x27_2 + 1)) l0_0 l0_1) else (some false)) else (some false))) else (none)) else (none)) = some r := by first | (rw [hji26] at H; exact H) | (simp only [hji26] at H ⊢; exact H)
          (try rw [hji26] at A17)
          have hji26w : (IntKind.i64.wrap (((rd_T140 l0_0 x27_2).f1) - 1)) = ji26 := (i64_w _).trans hji26
          replace H := ifP H; obtain ⟨c27, H⟩ := H
          have c27b0 := decide_eq_true c27
          clear c27
          replace H := ifP H; obtain ⟨c28, H⟩ := H
          have c28b0 := decide_eq_true c28
          clear c28
          replace H := bE H; obtain ⟨⟨t109, t110, t111, t112⟩, A29, H⟩ := H
          try dsimp only at H
          go_wp2_with (first | (refine goesM 172 36 Tryz.func172 #[.agg #[.int .i64 ((rd_T140 l0_0 x27_2).f0), .int .i64 ((rd_T140 l0_0 x27_2).f1), .int .i64 ((rd_T140 l0_0 x27_2).f2)], .int .i64 (l0_1.length : Int)] ?_; refine (impl_WordOk.calls _ _ _ _ _ _ A17.out).mono ?_; rintro e wv2 ⟨rfl, hb⟩; refine ⟨_, rfl, ?_⟩; replace BKz1 := aF BKz1 hb; replace BKv1 := aM (blk_below (g := gbv1) (o := .cells #[.int .i64 ((rd_T140 l0_0 x27_2).f0), .int .i64 ((rd_T140 l0_0 x27_2).f1), .int .i64 ((rd_T140 l0_0 x27_2).f2)] 140 (0, 0)) (bP BKv1.out) hb); replace HB := aS HB hb; clear hb; obtain ⟨hczv6, hczv7, hczv8, hfzv6, hfzv7, hfzv8⟩ := cZ3 BKv1.out; obtain ⟨hczv9, hczv10, hfzv9, hfzv10⟩ := cZ2 BKz1.out; have pv2 : 0 ≤ ((ji26) : Int) := odA; have qv2 : (ji26) < (l0_1.length : Int) := odA; obtain ⟨adv2, Av1, cv1, Av2, cv2, ev2, hxv4, hxv5, hxv6, hxv7, hxv8, hlv1, hiv1, hlv2, hiv2⟩ := at_T162 HR0_1.out (ji26) pv2 qv2; cases ev2; replace hxv4 := bc HB.out hxv4; replace hxv5 := bc HB.out hxv5; replace hxv6 := bc HB.out hxv6; replace hxv7 := bc HB.out hxv7; replace hxv8 := bc HB.out hxv8; have HRv1 := aM hiv1; have HCv1 := aM hlv1; clear hiv1 hlv1; have HRv2 := aM hiv2; have HCv2 := aM hlv2; clear hiv2 hlv2; replace pv2 := eq_true pv2; replace qv2 := eq_true qv2) | ((with_reducible refine gate_dst (N := 5) rfl ?_); (try (refine gate_guard (by rfl) ?_; dsimp only)); refine boxF 5 #[.int .i64 0, .int .i64 0, .slice none 0 0, .int .i64 0, .slice none 0 0] 162 ?_; intro gbv2 hg wv3 hbox hb; have BKv2 := aM (hbox); have GWv2 := aG hg HB; have GEv2 := aG hg HB; have NBv3 := aL hg BKz1; have NBv4 := aR hg BKz1; have NBv5 := aL hg BKv1; have NBv6 := aR hg BKv1; replace BKz1 := aB BKz1 hb; replace BKv1 := aB BKv1 hb; replace HB := aS HB hb; clear hb hbox hg; have hnbv2 := NBv4.out; have hncv2 := NBv3.out; have hnbv3 := NBv6.out; have hncv3 := NBv5.out; obtain ⟨hczv11, hczv12, hczv13, hczv14, hczv15, hfzv11, hfzv12, hfzv13, hfzv14, hfzv15⟩ := cZ5 BKv2.out; refine Stop.out ?_))
          refine ⟨?_⟩
          by_cases c30 : t112 = true
          case neg =>
            replace c30 := Bool.eq_false_iff.mpr c30
            subst c30
            rw [if_neg nft] at H
            obtain rfl := sI H
            go_wp2_with (first | ((with_reducible refine gate_callee (f := 173) rfl ?_); refine goesL_ (some 51) rfl rfl Tryz.func173 (by kernel_rfl) rfl #[.agg #[.int .i64 ((rd_T162 l0_1 (ji26)).f0), .int .i64 ((rd_T162 l0_1 (ji26)).f1), .slice Av1 ((rd_T162 l0_1 (ji26)).f2).length cv1, .int .i64 ((rd_T162 l0_1 (ji26)).f3.f0), .slice Av2 ((rd_T162 l0_1 (ji26)).f3.f1).length cv2], .int .i64 x27_2] rfl (by (try simp only [List.map_toArray, List.map_cons, List.map_nil]); first | done | (simp only [hji26]; rfl) | rfl | (simp only [List.length_drop, List.length_take]; rfl)) ?_; (with_reducible refine (impl_Entries.calls k2 ((rd_T162 l0_1 (ji26)).f0) ((rd_T162 l0_1 (ji26)).f1) _ _ ((rd_T162 l0_1 (ji26)).f2) ((rd_T162 l0_1 (ji26)).f3.f0) _ _ ((rd_T162 l0_1 (ji26)).f3.f1) x27_2 t109 t110 t111 false _ (by exact Kd.C_below HRv1.out (hX HB.out)) HCv1.out (by exact Kd.C_below HRv2.out (hX HB.out)) HCv2.out A29.out).mono ?_); rintro e wv4 ⟨rfl, hb⟩; refine ⟨_, rfl, ?_⟩; replace BKz1 := aF BKz1 hb; replace BKv1 := aF BKv1 hb; replace BKv2 := aM (blk_below (g := gbv2) (o := .cells #[.int .i64 ((rd_T162 l0_1 (ji26)).f0), .int .i64 ((rd_T162 l0_1 (ji26)).f1), .slice Av1 ((rd_T162 l0_1 (ji26)).f2).length cv1, .int .i64 ((rd_T162 l0_1 (ji26)).f3.f0), .slice Av2 ((rd_T162 l0_1 (ji26)).f3.f1).length cv2] 162 (0, 0)) (bP BKv2.out) hb); replace HB := aS HB hb; clear hb) | ((with_reducible refine gate_dst (N := 6) rfl ?_); (try (refine gate_guard (by rfl) ?_; dsimp only)); refine boxF 6 #[.int .i64 0, .int .i64 0, .int .i64 0] 165 ?_; intro gbv3 hg wv5 hbox hb; have BKv3 := aM (hbox); have GWv3 := aG hg HB; have GEv3 := aG hg HB; have NBv7 := aL hg BKz1; have NBv8 := aR hg BKz1; have NBv9 := aL hg BKv1; have NBv10 := aR hg BKv1; have NBv11 := aM ((by rw [hg]; exact Nat.ne_of_lt (blk_lt (g := gbv2) (o := .cells #[.int .i64 ((rd_T162 l0_1 (ji26)).f0), .int .i64 ((rd_T162 l0_1 (ji26)).f1), .slice Av1 ((rd_T162 l0_1 (ji26)).f2).length cv1, .int .i64 ((rd_T162 l0_1 (ji26)).f3.f0), .slice Av2 ((rd_T162 l0_1 (ji26)).f3.f1).length cv2] 162 (0, 0)) (bX BKv2.out)) : gbv2 ≠ gbv3)); have NBv12 := aM ((by rw [hg]; exact Nat.ne_of_gt (blk_lt (g := gbv2) (o := .cells #[.int .i64 ((rd_T162 l0_1 (ji26)).f0), .int .i64 ((rd_T162 l0_1 (ji26)).f1), .slice Av1 ((rd_T162 l0_1 (ji26)).f2).length cv1, .int .i64 ((rd_T162 l0_1 (ji26)).f3.f0), .slice Av2 ((rd_T162 l0_1 (ji26)).f3.f1).length cv2] 162 (0, 0)) (bX BKv2.out)) : gbv3 ≠ gbv2)); replace BKz1 := aB BKz1 hb; replace BKv1 := aB BKv1 hb; replace BKv2 := aM (blk_below (g := gbv2) (o := .cells #[.int .i64 ((rd_T162 l0_1 (ji26)).f0), .int .i64 ((rd_T162 l0_1 (ji26)).f1), .slice Av1 ((rd_T162 l0_1 (ji26)).f2).length cv1, .int .i64 ((rd_T162 l0_1 (ji26)).f3.f0), .slice Av2 ((rd_T162 l0_1 (ji26)).f3.f1).length cv2] 162 (0, 0)) (bX BKv2.out) hb); replace HB := aS HB hb; clear hb hbox hg; have hnbv4 := NBv8.out; have hncv4 := NBv7.out; have hnbv5 := NBv10.out; have hncv5 := NBv9.out; have hnbv6 := NBv12.out; have hncv6 := NBv11.out; obtain ⟨hczv16, hczv17, hczv18, hfzv16, hfzv17, hfzv18⟩ := cZ3 BKv3.out))
            go_ret
            exact ⟨by first | rfl | (simp [errW_none, errW_some] <;> rfl) | (simp only [← hji26]; first | rfl | (simp [errW_none, errW_some] <;> rfl)) | (simp [*, errW_none, errW_some] <;> rfl), (hX HB.out)⟩
          subst c30
          rw [if_pos rfl] at H
          go_wp2_with (first | ((with_reducible refine gate_callee (f := 173) rfl ?_); refine goesL_ (some 51) rfl rfl Tryz.func173 (by kernel_rfl) rfl #[.agg #[.int .i64 ((rd_T162 l0_1 (ji26)).f0), .int .i64 ((rd_T162 l0_1 (ji26)).f1), .slice Av1 ((rd_T162 l0_1 (ji26)).f2).length cv1, .int .i64 ((rd_T162 l0_1 (ji26)).f3.f0), .slice Av2 ((rd_T162 l0_1 (ji26)).f3.f1).length cv2], .int .i64 x27_2] rfl (by (try simp only [List.map_toArray, List.map_cons, List.map_nil]); first | done | (simp only [hji26]; rfl) | rfl | (simp only [List.length_drop, List.length_take]; rfl)) ?_; (with_reducible refine (impl_Entries.calls k2 ((rd_T162 l0_1 (ji26)).f0) ((rd_T162 l0_1 (ji26)).f1) _ _ ((rd_T162 l0_1 (ji26)).f2) ((rd_T162 l0_1 (ji26)).f3.f0) _ _ ((rd_T162 l0_1 (ji26)).f3.f1) x27_2 t109 t110 t111 true _ (by exact Kd.C_below HRv1.out (hX HB.out)) HCv1.out (by exact Kd.C_below HRv2.out (hX HB.out)) HCv2.out A29.out).mono ?_); rintro e wv4 ⟨rfl, hb⟩; refine ⟨_, rfl, ?_⟩; replace BKz1 := aF BKz1 hb; replace BKv1 := aF BKv1 hb; replace BKv2 := aM (blk_below (g := gbv2) (o := .cells #[.int .i64 ((rd_T162 l0_1 (ji26)).f0), .int .i64 ((rd_T162 l0_1 (ji26)).f1), .slice Av1 ((rd_T162 l0_1 (ji26)).f2).length cv1, .int .i64 ((rd_T162 l0_1 (ji26)).f3.f0), .slice Av2 ((rd_T162 l0_1 (ji26)).f3.f1).length cv2] 162 (0, 0)) (bP BKv2.out) hb); replace HB := aS HB hb; clear hb) | ((with_reducible refine gate_dst (N := 6) rfl ?_); (try (refine gate_guard (by rfl) ?_; dsimp only)); refine boxF 6 #[.int .i64 0, .int .i64 0, .int .i64 0] 165 ?_; intro gbv3 hg wv5 hbox hb; have BKv3 := aM (hbox); have GWv3 := aG hg HB; have GEv3 := aG hg HB; have NBv7 := aL hg BKz1; have NBv8 := aR hg BKz1; have NBv9 := aL hg BKv1; have NBv10 := aR hg BKv1; have NBv11 := aM ((by rw [hg]; exact Nat.ne_of_lt (blk_lt (g := gbv2) (o := .cells #[.int .i64 ((rd_T162 l0_1 (ji26)).f0), .int .i64 ((rd_T162 l0_1 (ji26)).f1), .slice Av1 ((rd_T162 l0_1 (ji26)).f2).length cv1, .int .i64 ((rd_T162 l0_1 (ji26)).f3.f0), .slice Av2 ((rd_T162 l0_1 (ji26)).f3.f1).length cv2] 162 (0, 0)) (bX BKv2.out)) : gbv2 ≠ gbv3)); have NBv12 := aM ((by rw [hg]; exact Nat.ne_of_gt (blk_lt (g := gbv2) (o := .cells #[.int .i64 ((rd_T162 l0_1 (ji26)).f0), .int .i64 ((rd_T162 l0_1 (ji26)).f1), .slice Av1 ((rd_T162 l0_1 (ji26)).f2).length cv1, .int .i64 ((rd_T162 l0_1 (ji26)).f3.f0), .slice Av2 ((rd_T162 l0_1 (ji26)).f3.f1).length cv2] 162 (0, 0)) (bX BKv2.out)) : gbv3 ≠ gbv2)); replace BKz1 := aB BKz1 hb; replace BKv1 := aB BKv1 hb; replace BKv2 := aM (blk_below (g := gbv2) (o := .cells #[.int .i64 ((rd_T162 l0_1 (ji26)).f0), .int .i64 ((rd_T162 l0_1 (ji26)).f1), .slice Av1 ((rd_T162 l0_1 (ji26)).f2).length cv1, .int .i64 ((rd_T162 l0_1 (ji26)).f3.f0), .slice Av2 ((rd_T162 l0_1 (ji26)).f3.f1).length cv2] 162 (0, 0)) (bX BKv2.out) hb); replace HB := aS HB hb; clear hb hbox hg; have hnbv4 := NBv8.out; have hncv4 := NBv7.out; have hnbv5 := NBv10.out; have hncv5 := NBv9.out; have hnbv6 := NBv12.out; have hncv6 := NBv11.out; obtain ⟨hczv16, hczv17, hczv18, hfzv16, hfzv17, hfzv18⟩ := cZ3 BKv3.out; obtain ⟨hczv19, hczv20, hczv21, hczv22, hczv23, hfzv19, hfzv20, hfzv21, hfzv22, hfzv23⟩ := cZ5 BKv2.out; obtain ⟨hczv24, hczv25, hczv26, hfzv24, hfzv25, hfzv26⟩ := cZ3 BKv1.out; refine Stop.out ?_))
          refine ⟨?_⟩
          by_cases c31 : ((rd_T162 l0_1 (ji26)).f0) = ((rd_T140 l0_0 x27_2).f2)
          case neg =>
            rw [if_neg c31] at H
            obtain ⟨c31b0, c31b1⟩ := eqF c31
            obtain rfl := sI H
            go_wp2
            go_ret
            exact ⟨by first | rfl | (simp [errW_none, errW_some] <;> rfl) | (simp only [← hji26]; first | rfl | (simp [errW_none, errW_some] <;> rfl)) | (simp [*, errW_none, errW_some] <;> rfl), (hX HB.out)⟩
          rw [if_pos c31] at H
          obtain ⟨c31b0, c31b1⟩ := eqT c31
          clear c31
          have H' := aM H
          clear H
          go_wp2
          go_roundg k2
          case measure => have := HJy1.out; have := HKw1.out; omega
          case rel => exact ⟨(wrap64 (x27_2 + 1)), rS, H', ⟨by have := HJy1.out; have := HKw1.out; omega⟩, ⟨(bF BKz1.out)⟩, ⟨(hX HB.out)⟩⟩
def impl_ValOk.f (a0 : Int) : Option (Bool) := (impl_from.f a0 1 6).bind fun t101 => (some t101)
set_option maxHeartbeats 8000000 in
set_option maxRecDepth 100000 in
theorem impl_ValOk.calls (a0 : Int) (r : Bool) (w : World) (h : impl_ValOk.f a0 = some r) :
    Calls Tryz.prog 174 #[.int .i64 a0] w fun e w' => e = .returned (.bool r) ∧ Drawn0 w w' := by
  have H := h
  unfold impl_ValOk.f at H
  clear h
  replace H := bE H; obtain ⟨t101, A2, H⟩ := H
  obtain rfl := sI H
  go_enter Tryz.func174, Tryz.ntmps174
  go_wp2_with (first | (refine goesM 102 4 Tryz.func102 #[.int .i64 a0, .int .i64 1, .int .i64 6] ?_; refine (impl_from.calls _ _ _ _ _ A2.out).mono ?_; rintro e w' ⟨rfl, ⟨nd, rfl⟩⟩; refine ⟨_, rfl, ?_⟩))
  go_ret
  exact ⟨by first | rfl | (simp; done) | (simp [*]; done), dX⟩
def slices_Index_int_int.l0 : Nat → List Int → Int → Int → Int → Option (Int)
  | 0, _, _, _, _ => none
  | k + 1, x0, x1, x7, x8 => if x8 < x7 then (if 0 ≤ x8 then (if x8 < (x0.length : Int) then (if x1 = (rd x0 x8) then (some x8) else (slices_Index_int_int.l0 k x0 x1 x7 (wrap64 (x8 + 1)))) else (none)) else (none)) else (some (-1))
def slices_Index_int_int.f (k : Nat) (l0 : List Int) (a1 : Int) : Option (Int) := slices_Index_int_int.l0 k l0 a1 (l0.length : Int) 0
set_option maxHeartbeats 8000000 in
set_option maxRecDepth 100000 in
theorem slices_Index_int_int.calls (k : Nat) (A0 : Option Addr) (c0 : Nat) (l0 : List Int) (a1 : Int) (r : Int) (w : World) (hr0 : Kd.C (Kd.int .i64) w A0 l0.length l0) (hc0 : l0.length ≤ c0) (h : slices_Index_int_int.f k l0 a1 = some r) :
    Calls Tryz.prog 209 #[.slice A0 l0.length c0, .int .i64 a1] w fun e w' => e = .returned (.int .i64 r) ∧ Drawn0 w w' := by
  have HR0 := aM hr0
  have HC0 := aM hc0
  clear hr0 hc0
  have H := h
  unfold slices_Index_int_int.f at H
  clear h
  have H' := aM H
  clear H
  go_enter Tryz.func209, Tryz.ntmps209
  go_wp2
  go_loopg [8] k (fun kq v8 w' => ∃ (x8_1 : Int), v8 = .int .i64 x8_1 ∧ Aside0 (slices_Index_int_int.l0 kq l0 a1 (l0.length : Int) x8_1 = some r) ∧ Aside0 (kq ≤ k) ∧ Drawn0 w w')
  case atStart => exact ⟨(0), rS, H', ⟨Nat.le_refl _⟩, dX⟩
  case round =>
    clear H'
    try clear p2
    obtain ⟨x8_1, rfl, HA, HKy1, ⟨my1, rfl⟩⟩ := hrel
    cases gk with
    | zero => exact absurd HA.out (by simp [slices_Index_int_int.l0])
    | succ k1 =>
      have H := HA.out
      clear HA
      simp only [slices_Index_int_int.l0] at H
      by_cases c3 : x8_1 < (l0.length : Int)
      case neg =>
        rw [if_neg c3] at H
        have c3b0 := decide_eq_false c3
        clear c3
        obtain rfl := sI H
        go_wp2
        go_ret
        exact ⟨by first | rfl | (simp; done) | (simp [*]; done), dX⟩
      rw [if_pos c3] at H
      have c3b0 := decide_eq_true c3
      clear c3
      replace H := ifP H; obtain ⟨c4, H⟩ := H
      have c4b0 := decide_eq_true c4
      clear c4
      replace H := ifP H; obtain ⟨c5, H⟩ := H
      have c5b0 := decide_eq_true c5
      clear c5
      by_cases c6 : a1 = (rd l0 x8_1)
      · rw [if_pos c6] at H
        obtain ⟨c6b0, c6b1⟩ := eqT c6
        clear c6
        obtain rfl := sI H
        have px1 : 0 ≤ (x8_1 : Int) := odA
        have qx1 : x8_1 < (l0.length : Int) := odA
        obtain ⟨adx1, ex1, hxx1⟩ := Kd.at_int HR0.out x8_1 px1 qx1
        cases ex1
        replace px1 := eq_true px1
        replace qx1 := eq_true qx1
        go_wp2
        go_ret
        exact ⟨by first | rfl | (simp; done) | (simp [*]; done), dX⟩
      rw [if_neg c6] at H
      obtain ⟨c6b0, c6b1⟩ := eqF c6
      have H' := aM H
      clear H
      have px1 : 0 ≤ (x8_1 : Int) := odA
      have qx1 : x8_1 < (l0.length : Int) := odA
      obtain ⟨adx1, ex1, hxx1⟩ := Kd.at_int HR0.out x8_1 px1 qx1
      cases ex1
      replace px1 := eq_true px1
      replace qx1 := eq_true qx1
      go_wp2
      go_roundg k1
      case measure => have := HKy1.out; omega
      case rel => exact ⟨(wrap64 (x8_1 + 1)), rS, H', ⟨by have := HKy1.out; omega⟩, dX⟩
def slices_Contains_int_int.f (k : Nat) (l0 : List Int) (a1 : Int) : Option (Bool) := (slices_Index_int_int.f k l0 a1).bind fun t101 => (some (decide (t101 ≥ 0)))
set_option maxHeartbeats 8000000 in
set_option maxRecDepth 100000 in
theorem slices_Contains_int_int.calls (k : Nat) (A0 : Option Addr) (c0 : Nat) (l0 : List Int) (a1 : Int) (r : Bool) (w : World) (hr0 : Kd.C (Kd.int .i64) w A0 l0.length l0) (hc0 : l0.length ≤ c0) (h : slices_Contains_int_int.f k l0 a1 = some r) :
    Calls Tryz.prog 175 #[.slice A0 l0.length c0, .int .i64 a1] w fun e w' => e = .returned (.bool r) ∧ Drawn0 w w' := by
  have HR0 := aM hr0
  have HC0 := aM hc0
  clear hr0 hc0
  have H := h
  unfold slices_Contains_int_int.f at H
  clear h
  replace H := bE H; obtain ⟨t101, A3, H⟩ := H
  obtain rfl := sI H
  go_enter Tryz.func175, Tryz.ntmps175
  go_wp2_with (first | (refine goesM 209 7 Tryz.func209 #[.slice A0 l0.length c0, .int .i64 a1] ?_; refine (slices_Index_int_int.calls _ _ _ _ _ _ _ (cX HR0.out) HC0.out A3.out).mono ?_; rintro e w' ⟨rfl, ⟨nd, rfl⟩⟩; refine ⟨_, rfl, ?_⟩))
  go_ret
  exact ⟨by first | rfl | (simp; done) | (simp [*]; done), dX⟩
def impl_RowsOk.l0 : Nat → List Int → Int → Int → List Int → Int → Option (Bool)
  | 0, _, _, _, _, _ => none
  | k + 1, x6, x7, x8, x102000, x102001 => if x8 < x7 then (if 0 ≤ x8 then (if x8 < (x6.length : Int) then (if (rd x6 x8) = 0 then (impl_RowsOk.l0 k x6 x7 (wrap64 (x8 + 1)) x102000 x102001) else ((impl_ValOk.f (rd x6 x8)).bind fun t104 => (if t104 = true then (if x8 ≤ (x102000.length : Int) then ((slices_Contains_int_int.f k (x102000.take (x8 : Int).toNat) (rd x6 x8)).bind fun t106 => (if t106 = true then (some false) else (impl_RowsOk.l0 k x6 x7 (wrap64 (x8 + 1)) x102000 x102001))) else (none)) else (some false)))) else (none)) else (none)) else (if (x102000.length : Int) = 4 then ((impl_from.f x102001 0 5).bind fun t102 => (some t102)) else (some false))
def impl_RowsOk.f (k : Nat) (l0_0 : List Int) (a0_1 : Int) : Option (Bool) := impl_RowsOk.l0 k l0_0 (l0_0.length : Int) 0 l0_0 a0_1
set_option maxHeartbeats 8000000 in
set_option maxRecDepth 100000 in
theorem impl_RowsOk.calls (k : Nat) (A0_0 : Option Addr) (c0_0 : Nat) (l0_0 : List Int) (a0_1 : Int) (r : Bool) (w : World) (hr0_0 : Kd.C (Kd.int .i64) w A0_0 l0_0.length l0_0) (hc0_0 : l0_0.length ≤ c0_0) (h : impl_RowsOk.f k l0_0 a0_1 = some r) :
    Calls Tryz.prog 103 #[.agg #[.slice A0_0 l0_0.length c0_0, .int .i64 a0_1]] w fun e w' => e = .returned (.bool r) ∧ Below w.heap.size w w' := by
  have hu41 := Tryz.underlying41
  have HR0_0 := aM hr0_0
  have HC0_0 := aM hc0_0
  clear hr0_0 hc0_0
  have HB := aM (Below.refl w.heap.size w)
  have H := h
  unfold impl_RowsOk.f at H
  clear h
  have H' := aM H
  clear H
  go_enter Tryz.func103, Tryz.ntmps103
  go_wp2_with (first | (refine boxE 1 #[.slice A0_0 l0_0.length c0_0, .int .i64 a0_1] 41 ?_; intro gbz1 hg wz1 hbox hb; have BKz1 := aM (hbox); have GWz1 := aG hg HB; have GEz1 := aG hg HB; replace HB := aS HB hb; clear hb hbox hg; obtain ⟨hczz1, hczz2, hfzz1, hfzz2⟩ := cZ2 BKz1.out))
  go_loopg [8] k (fun kq v8 w' => ∃ (x8_1 : Int), v8 = .int .i64 x8_1 ∧ Aside0 (impl_RowsOk.l0 kq l0_0 (l0_0.length : Int) x8_1 l0_0 a0_1 = some r) ∧ Aside0 (kq ≤ k) ∧ Aside0 (w'.heap[gbz1]? = some (.cells #[(.slice A0_0 l0_0.length c0_0), .int .i64 a0_1] 41 (0, 0))) ∧ Aside0 (Below w.heap.size w w'))
  case atStart => exact ⟨(0), rS, H', ⟨Nat.le_refl _⟩, ⟨(bX BKz1.out)⟩, ⟨(hX HB.out)⟩⟩
  case round =>
    clear H'
    try clear p2
    try clear hczz1 hczz2 hfzz1 hfzz2
    obtain ⟨x8_1, rfl, HA, HKy1, BKz1, HB⟩ := hrel
    cases gk with
    | zero => exact absurd HA.out (by simp [impl_RowsOk.l0])
    | succ k1 =>
      have H := HA.out
      clear HA
      simp only [impl_RowsOk.l0] at H
      by_cases c4 : x8_1 < (l0_0.length : Int)
      case neg =>
        rw [if_neg c4] at H
        have c4b0 := decide_eq_false c4
        clear c4
        by_cases c18 : (l0_0.length : Int) = 4
        case neg =>
          rw [if_neg c18] at H
          obtain ⟨c18b0, c18b1⟩ := eqF c18
          obtain rfl := sI H
          obtain ⟨hczx1, hczx2, hfzx1, hfzx2⟩ := cZ2 BKz1.out
          go_wp2
          go_ret
          exact ⟨rE, (hX HB.out)⟩
        rw [if_pos c18] at H
        obtain ⟨c18b0, c18b1⟩ := eqT c18
        clear c18
        replace H := bE H; obtain ⟨t102, A19, H⟩ := H
        obtain rfl := sI H
        obtain ⟨hczx1, hczx2, hfzx1, hfzx2⟩ := cZ2 BKz1.out
        go_wp2_with (first | (go_at_call 102; (with_reducible refine (impl_from.calls _ _ _ _ _ A19.out).mono ?_); rintro e w' ⟨rfl, ⟨nd, rfl⟩⟩))
        go_ret
        exact ⟨rE, (hX HB.out)⟩
      rw [if_pos c4] at H
      have c4b0 := decide_eq_true c4
      clear c4
      replace H := ifP H; obtain ⟨c5, H⟩ := H
      have c5b0 := decide_eq_true c5
      clear c5
      replace H := ifP H; obtain ⟨c6, H⟩ := H
      have c6b0 := decide_eq_true c6
      clear c6
      by_cases c7 : (rd l0_0 x8_1) = 0
      · rw [if_pos c7] at H
        obtain ⟨c7b0, c7b1⟩ := eqT c7
        clear c7
        have H' := aM H
        clear H
        have px1 : 0 ≤ (x8_1 : Int) := odA
        have qx1 : x8_1 < (l0_0.length : Int) := odA
        obtain ⟨adx1, ex1, hxx1⟩ := at_ib HR0_0.out HB.out x8_1 px1 qx1
        cases ex1
        replace px1 := eq_true px1
        replace qx1 := eq_true qx1
        go_wp2
        go_roundg k1
        case measure => have := HKy1.out; omega
        case rel => exact ⟨(wrap64 (x8_1 + 1)), rS, H', ⟨by have := HKy1.out; omega⟩, ⟨(bX BKz1.out)⟩, ⟨(hX HB.out)⟩⟩
      rw [if_neg c7] at H
      obtain ⟨c7b0, c7b1⟩ := eqF c7
      replace H := bE H; obtain ⟨t104, A8, H⟩ := H
      by_cases c9 : t104 = true
      case neg =>
        replace c9 := Bool.eq_false_iff.mpr c9
        subst c9
        rw [if_neg nft] at H
        obtain rfl := sI H
        have px1 : 0 ≤ (x8_1 : Int) := odA
        have qx1 : x8_1 < (l0_0.length : Int) := odA
        obtain ⟨adx1, ex1, hxx1⟩ := at_ib HR0_0.out HB.out x8_1 px1 qx1
        cases ex1
        replace px1 := eq_true px1
        replace qx1 := eq_true qx1
        go_wp2_with (first | (go_at_call 174; (with_reducible refine (impl_ValOk.calls _ _ _ A8.out).mono ?_); rintro e w' ⟨rfl, ⟨nd, rfl⟩⟩))
        go_ret
        exact ⟨rE, (hX HB.out)⟩
      subst c9
      rw [if_pos rfl] at H
      have c10b0 := eq_true (odA : 0 ≤ x8_1)
      replace H := ifP H; obtain ⟨c11, H⟩ := H
      have c11b0 := eq_true c11
      have c11b1 := decide_eq_true c11
      clear c11
      replace H := bE H; obtain ⟨t106, A12, H⟩ := H
      have px1 : 0 ≤ (x8_1 : Int) := odA
      have qx1 : x8_1 < (l0_0.length : Int) := odA
      obtain ⟨adx1, ex1, hxx1⟩ := at_ib HR0_0.out HB.out x8_1 px1 qx1
      cases ex1
      replace px1 := eq_true px1
      replace qx1 := eq_true qx1
      go_wp2_with (first | (go_at_call 174; (with_reducible refine (impl_ValOk.calls _ _ _ A8.out).mono ?_); rintro e w' ⟨rfl, ⟨nd, rfl⟩⟩; obtain ⟨hczx1, hczx2, hfzx1, hfzx2⟩ := cZ2 BKz1.out; obtain ⟨ix1, hix1, _, hszx1, _⟩ := info_parts info3; obtain ⟨hcutx1, hAx1, hCx1⟩ := print_take_of (P := Tryz.prog) (Value.int .i64) 0 28 3 .i64 Tryz.underlying28 hix1 hszx1 (some adx1) c0_0 l0_0 x8_1 (odA) (odA) HC0_0.out; have HRx1 := aM (Kd.C_of_reads (h1 := fun _ => rfl) (hAx1 _ (Kd.reads_of_C HR0_0.out))); have HCx1 := aM hCx1; clear hAx1 hCx1 hix1 hszx1; refine Stop.out ?_))
      refine ⟨?_⟩
      by_cases c13 : t106 = true
      · subst c13
        rw [if_pos rfl] at H
        obtain rfl := sI H
        go_wp2_with (first | (go_at_call 175; refine calls_of_args (args' := #[.slice (some adx1) (l0_0.take (x8_1 : Int).toNat).length c0_0, .int .i64 (rd l0_0 x8_1)]) (by first | (rw [show (l0_0.take (x8_1 : Int).toNat).length = x8_1.toNat from (by rw [List.length_take]; have h_ : (x8_1 : Int) ≤ (l0_0.length : Int) := odA; omega)] <;> rfl) | rfl) ?_; (with_reducible refine (slices_Contains_int_int.calls k1 _ _ (l0_0.take (x8_1 : Int).toNat) (rd l0_0 x8_1) true _ ?side1 ?side2 A12.out).mono ?_); (case side1 => repeat (first | exact (Kd.C_below HRx1.out (hX HB.out)) | (with_reducible refine Kd.C_alloc ?_ _) | (with_reducible refine Kd.C_drewN ?_ _) | (with_reducible refine Kd.C_drew ?_))); (case side2 => exact HCx1.out); rintro e w' ⟨rfl, ⟨nd, rfl⟩⟩))
        go_ret
        exact ⟨rE, (hX HB.out)⟩
      replace c13 := Bool.eq_false_iff.mpr c13
      subst c13
      rw [if_neg nft] at H
      have H' := aM H
      clear H
      go_wp2_with (first | (go_at_call 175; refine calls_of_args (args' := #[.slice (some adx1) (l0_0.take (x8_1 : Int).toNat).length c0_0, .int .i64 (rd l0_0 x8_1)]) (by first | (rw [show (l0_0.take (x8_1 : Int).toNat).length = x8_1.toNat from (by rw [List.length_take]; have h_ : (x8_1 : Int) ≤ (l0_0.length : Int) := odA; omega)] <;> rfl) | rfl) ?_; (with_reducible refine (slices_Contains_int_int.calls k1 _ _ (l0_0.take (x8_1 : Int).toNat) (rd l0_0 x8_1) false _ ?side1 ?side2 A12.out).mono ?_); (case side1 => repeat (first | exact (Kd.C_below HRx1.out (hX HB.out)) | (with_reducible refine Kd.C_alloc ?_ _) | (with_reducible refine Kd.C_drewN ?_ _) | (with_reducible refine Kd.C_drew ?_))); (case side2 => exact HCx1.out); rintro e w' ⟨rfl, ⟨nd, rfl⟩⟩))
      go_roundg k1
      case measure => have := HKy1.out; omega
      case rel => exact ⟨(wrap64 (x8_1 + 1)), rS, H', ⟨by have := HKy1.out; omega⟩, ⟨(bX BKz1.out)⟩, ⟨(hX HB.out)⟩⟩
def impl_MachineOk_1.f (a0_0 : Int) (a0_1 : Int) (a0_2 : Int) (a0_3 : Int) (a0_4 : Int) (a0_5 : Int) (a0_6 : Int) (a0_7 : Int) (l0_8 : List Int) (a1 : Int) (l2_0 : List (S140)) (l2_1 : List (S162)) (l2_2 : List (S97)) (a2_3 : Int) (l2_4 : List (S73)) (l2_5 : List Int) (l2_6 : List Int) (a2_7 : Int) : Option (Bool) := if a1 = (-1) then (some true) else ((impl_from.f a1 a0_4 a2_3).bind fun t102 => (some t102))
set_option maxHeartbeats 8000000 in
set_option maxRecDepth 100000 in
theorem impl_MachineOk_1.calls (a0_0 : Int) (a0_1 : Int) (a0_2 : Int) (a0_3 : Int) (a0_4 : Int) (a0_5 : Int) (a0_6 : Int) (a0_7 : Int) (A0_8 : Option Addr) (c0_8 : Nat) (l0_8 : List Int) (a1 : Int) (gc2 : Nat) (A2_0 : Option Addr) (c2_0 : Nat) (l2_0 : List (S140)) (A2_1 : Option Addr) (c2_1 : Nat) (l2_1 : List (S162)) (A2_2 : Option Addr) (c2_2 : Nat) (l2_2 : List (S97)) (a2_3 : Int) (A2_4 : Option Addr) (c2_4 : Nat) (l2_4 : List (S73)) (A2_5 : Option Addr) (c2_5 : Nat) (l2_5 : List Int) (A2_6 : Option Addr) (c2_6 : Nat) (l2_6 : List Int) (a2_7 : Int) (r : Bool) (w : World) (hr0_8 : Kd.C (Kd.int .i64) w A0_8 l0_8.length l0_8) (hc0_8 : l0_8.length ≤ c0_8) (hr2_0 : Kd.C k140 w A2_0 l2_0.length l2_0) (hc2_0 : l2_0.length ≤ c2_0) (hr2_1 : Kd.C k162 w A2_1 l2_1.length l2_1) (hc2_1 : l2_1.length ≤ c2_1) (hr2_2 : Kd.C k97 w A2_2 l2_2.length l2_2) (hc2_2 : l2_2.length ≤ c2_2) (hr2_4 : Kd.C k73 w A2_4 l2_4.length l2_4) (hc2_4 : l2_4.length ≤ c2_4) (hr2_5 : Kd.C (Kd.int .i64) w A2_5 l2_5.length l2_5) (hc2_5 : l2_5.length ≤ c2_5) (hr2_6 : Kd.C (Kd.int .i64) w A2_6 l2_6.length l2_6) (hc2_6 : l2_6.length ≤ c2_6) (hbc2 : w.heap[gc2]? = some (.cells #[.slice A2_0 l2_0.length c2_0, .slice A2_1 l2_1.length c2_1, .slice A2_2 l2_2.length c2_2, .int .i64 a2_3, .slice A2_4 l2_4.length c2_4, .slice A2_5 l2_5.length c2_5, .slice A2_6 l2_6.length c2_6, .int .i64 a2_7] 43 (0, 0))) (h : impl_MachineOk_1.f a0_0 a0_1 a0_2 a0_3 a0_4 a0_5 a0_6 a0_7 l0_8 a1 l2_0 l2_1 l2_2 a2_3 l2_4 l2_5 l2_6 a2_7 = some r) :
    Calls Tryz.prog 104 #[.agg #[.int .i64 a0_0, .int .i64 a0_1, .int .i64 a0_2, .int .i64 a0_3, .int .i64 a0_4, .int .i64 a0_5, .int .i64 a0_6, .int .i64 a0_7, .slice A0_8 l0_8.length c0_8], .int .i64 a1, .pointer (some ⟨gc2, 0, none⟩)] w fun e w' => e = .returned (.bool r) ∧ Below w.heap.size w w' := by
  have hu73 := Tryz.underlying73
  have HR0_8 := aM hr0_8
  have HC0_8 := aM hc0_8
  clear hr0_8 hc0_8
  have HR2_0 := aM hr2_0
  have HC2_0 := aM hc2_0
  clear hr2_0 hc2_0
  have HR2_1 := aM hr2_1
  have HC2_1 := aM hc2_1
  clear hr2_1 hc2_1
  have HR2_2 := aM hr2_2
  have HC2_2 := aM hc2_2
  clear hr2_2 hc2_2
  have HR2_4 := aM hr2_4
  have HC2_4 := aM hc2_4
  clear hr2_4 hc2_4
  have HR2_5 := aM hr2_5
  have HC2_5 := aM hc2_5
  clear hr2_5 hc2_5
  have HR2_6 := aM hr2_6
  have HC2_6 := aM hc2_6
  clear hr2_6 hc2_6
  have BKz1 := aM hbc2
  clear hbc2
  have HB := aM (Below.refl w.heap.size w)
  have H := h
  unfold impl_MachineOk_1.f at H
  clear h
  by_cases c4 : a1 = (-1)
  · rw [if_pos c4] at H
    obtain ⟨c4b0, c4b1⟩ := eqT c4
    clear c4
    obtain rfl := sI H
    go_enter Tryz.func104, Tryz.ntmps104
    go_wp2_with (first | (refine boxE 3 #[.int .i64 a0_0, .int .i64 a0_1, .int .i64 a0_2, .int .i64 a0_3, .int .i64 a0_4, .int .i64 a0_5, .int .i64 a0_6, .int .i64 a0_7, .slice A0_8 l0_8.length c0_8] 73 ?_; intro gbz1 hg wz1 hbox hb; have BKz2 := aM (hbox); have GWz1 := aG hg HB; have GEz1 := aG hg HB; have NBz1 := aL hg BKz1; have NBz2 := aR hg BKz1; replace BKz1 := aB BKz1 hb; replace HB := aS HB hb; clear hb hbox hg))
    go_ret
    exact ⟨rE, (hX HB.out)⟩
  rw [if_neg c4] at H
  obtain ⟨c4b0, c4b1⟩ := eqF c4
  replace H := bE H; obtain ⟨tz1, Az1, H⟩ := H
  obtain rfl := sI H
  go_enter Tryz.func104, Tryz.ntmps104
  go_wp2_with (first | (refine boxE 3 #[.int .i64 a0_0, .int .i64 a0_1, .int .i64 a0_2, .int .i64 a0_3, .int .i64 a0_4, .int .i64 a0_5, .int .i64 a0_6, .int .i64 a0_7, .slice A0_8 l0_8.length c0_8] 73 ?_; intro gbz1 hg wz2 hbox hb; have BKz2 := aM (hbox); have GWz1 := aG hg HB; have GEz1 := aG hg HB; have NBz1 := aL hg BKz1; have NBz2 := aR hg BKz1; replace BKz1 := aB BKz1 hb; replace HB := aS HB hb; clear hb hbox hg; have hnbz1 := NBz2.out; have hncz1 := NBz1.out; obtain ⟨hczz1, hczz2, hczz3, hczz4, hczz5, hczz6, hczz7, hczz8, hczz9, hfzz1, hfzz2, hfzz3, hfzz4, hfzz5, hfzz6, hfzz7, hfzz8, hfzz9⟩ := cZ9 BKz2.out; obtain ⟨hczz10, hczz11, hczz12, hczz13, hczz14, hczz15, hczz16, hczz17, hfzz10, hfzz11, hfzz12, hfzz13, hfzz14, hfzz15, hfzz16, hfzz17⟩ := cZ8 BKz1.out) | (go_at_call 102; (with_reducible refine (impl_from.calls a1 a0_4 a2_3 tz1 _ Az1.out).mono ?_); rintro e w' ⟨rfl, ⟨nd, rfl⟩⟩))
  go_ret
  exact ⟨rE, (hX HB.out)⟩
def impl_KeyOk.f (a0 : Int) : Option (Bool) := (impl_from.f a0 0 3).bind fun t101 => (some t101)
set_option maxHeartbeats 8000000 in
set_option maxRecDepth 100000 in
theorem impl_KeyOk.calls (a0 : Int) (r : Bool) (w : World) (h : impl_KeyOk.f a0 = some r) :
    Calls Tryz.prog 176 #[.int .i64 a0] w fun e w' => e = .returned (.bool r) ∧ Drawn0 w w' := by
  have H := h
  unfold impl_KeyOk.f at H
  clear h
  replace H := bE H; obtain ⟨t101, A2, H⟩ := H
  obtain rfl := sI H
  go_enter Tryz.func176, Tryz.ntmps176
  go_wp2_with (first | (refine goesM 102 4 Tryz.func102 #[.int .i64 a0, .int .i64 0, .int .i64 3] ?_; refine (impl_from.calls _ _ _ _ _ A2.out).mono ?_; rintro e w' ⟨rfl, ⟨nd, rfl⟩⟩; refine ⟨_, rfl, ?_⟩))
  go_ret
  exact ⟨by first | rfl | (simp; done) | (simp [*]; done), dX⟩
def impl_isClass.f (a0 : Int) : Option (Bool) := (impl_from.f a0 0 2).bind fun t101 => (some t101)
set_option maxHeartbeats 8000000 in
set_option maxRecDepth 100000 in
theorem impl_isClass.calls (a0 : Int) (r : Bool) (w : World) (h : impl_isClass.f a0 = some r) :
    Calls Tryz.prog 177 #[.int .i64 a0] w fun e w' => e = .returned (.bool r) ∧ Drawn0 w w' := by
  have H := h
  unfold impl_isClass.f at H
  clear h
  replace H := bE H; obtain ⟨t101, A2, H⟩ := H
  obtain rfl := sI H
  go_enter Tryz.func177, Tryz.ntmps177
  go_wp2_with (first | (refine goesM 102 4 Tryz.func102 #[.int .i64 a0, .int .i64 0, .int .i64 2] ?_; refine (impl_from.calls _ _ _ _ _ A2.out).mono ?_; rintro e w' ⟨rfl, ⟨nd, rfl⟩⟩; refine ⟨_, rfl, ?_⟩))
  go_ret
  exact ⟨by first | rfl | (simp; done) | (simp [*]; done), dX⟩
mutual
def impl_OpOk.j0 : Nat → Int → Bool → Int → Int → Int → Option (Bool)
  | 0, _, _, _, _, _ => none
  | k + 1, x4, x5, x102000, x102001, x102002 => if x5 = true then ((impl_KeyOk.f x102001).bind fun t102 => (if t102 = true then ((impl_ValOk.f x102002).bind fun t103 => (some t103)) else (some false))) else (if x4 = 3 then (impl_OpOk.j1 k x4 (x4 == 3) x102000 x102001 x102002) else (impl_OpOk.j1 k x4 (x4 == 4) x102000 x102001 x102002))
def impl_OpOk.j1 : Nat → Int → Bool → Int → Int → Int → Option (Bool)
  | 0, _, _, _, _, _ => none
  | k + 1, x4, x16, x102000, x102001, x102002 => if x16 = true then ((impl_KeyOk.f x102001).bind fun t104 => (if t104 = true then (some (x102002 == 0)) else (some false))) else (if x4 = 5 then (impl_OpOk.j2 k x4 (x4 == 5) x102000 x102001 x102002) else (impl_OpOk.j2 k x4 (x4 == 10) x102000 x102001 x102002))
def impl_OpOk.j2 : Nat → Int → Bool → Int → Int → Int → Option (Bool)
  | 0, _, _, _, _, _ => none
  | k + 1, x4, x27, x102000, x102001, x102002 => if x27 = true then (if x102001 = 0 then ((impl_ValOk.f x102002).bind fun t105 => (some t105)) else (some false)) else (if x4 = 6 then ((impl_isClass.f x102001).bind fun t106 => (if t106 = true then (some (x102002 == 0)) else (some false))) else (if x4 = 7 then (if x102001 = 0 then (some (x102002 == 0)) else (some false)) else (if x4 = 8 then (if x102001 = 0 then (some (x102002 == 0)) else (some false)) else (if x4 = 9 then (if x102001 = 0 then (some (x102002 == 0)) else (some false)) else (some false)))))
end
def impl_OpOk.f (k : Nat) (a0_0 : Int) (a0_1 : Int) (a0_2 : Int) : Option (Bool) := if a0_0 = 1 then (impl_OpOk.j0 k a0_0 (a0_0 == 1) a0_0 a0_1 a0_2) else (impl_OpOk.j0 k a0_0 (a0_0 == 2) a0_0 a0_1 a0_2)
set_option maxHeartbeats 8000000 in
set_option maxRecDepth 100000 in
theorem impl_OpOk.calls (k : Nat) (a0_0 : Int) (a0_1 : Int) (a0_2 : Int) (r : Bool) (w : World) (h : impl_OpOk.f k a0_0 a0_1 a0_2 = some r) :
    Calls Tryz.prog 105 #[.agg #[.int .i64 a0_0, .int .i64 a0_1, .int .i64 a0_2]] w fun e w' => e = .returned (.bool r) ∧ Below w.heap.size w w' := by
  have hu69 := Tryz.underlying69
  have HB := aM (Below.refl w.heap.size w)
  have H := h
  unfold impl_OpOk.f at H
  clear h
  have HC2 := aM H
  clear H
  go_enter Tryz.func105, Tryz.ntmps105
  go_upto_if 5 with (first | ((with_reducible refine gate_dst (N := 1) rfl ?_); refine boxE 1 #[.int .i64 a0_0, .int .i64 a0_1, .int .i64 a0_2] 69 ?_; intro gbz1 hg wz1 hbox hb; have BKz1 := aM (hbox); have GWz1 := aG hg HB; have GEz1 := aG hg HB; replace HB := aS HB hb; clear hb hbox hg; obtain ⟨hczz1, hczz2, hczz3, hfzz1, hfzz2, hfzz3⟩ := cZ3 BKz1.out))
  (try simp only [Act.put, List.setIfInBounds_toArray, List.set_cons_zero, List.set_cons_succ])
  go_cut [5] (fun vz1 wc => ∃ (kq : Nat) (x5_1 : Bool), vz1 = .bool x5_1 ∧ Aside0 (impl_OpOk.j0 kq a0_0 x5_1 a0_0 a0_1 a0_2 = some r) ∧ Aside0 (kq ≤ k) ∧ Aside0 (wc.heap[gbz1]? = some (.cells #[.int .i64 a0_0, .int .i64 a0_1, .int .i64 a0_2] 69 (0, 0))) ∧ Aside0 (Below w.heap.size w wc))
  case first =>
    have H := HC2.out
    clear HC2
    by_cases c5 : a0_0 = 1
    case neg =>
      rw [if_neg c5] at H
      obtain ⟨c5b0, c5b1⟩ := eqF c5
      (first | rw [c5b0] | (simp only [i64_w, i32_w]; rw [c5b0]) | skip)
      have H' := aM H
      clear H
      go_wp2
      go_meet
      case rel => exact ⟨_, ((a0_0 == 2)), rS, H', ⟨by first | omega | exact Nat.le_refl _⟩, ⟨(bX BKz1.out)⟩, ⟨(hX HB.out)⟩⟩
    rw [if_pos c5] at H
    obtain ⟨c5b0, c5b1⟩ := eqT c5
    clear c5
    (first | rw [c5b0] | (simp only [i64_w, i32_w]; rw [c5b0]) | skip)
    have H' := aM H
    clear H
    go_wp2
    go_meet
    case rel => exact ⟨_, ((a0_0 == 1)), rS, H', ⟨by first | omega | exact Nat.le_refl _⟩, ⟨(bX BKz1.out)⟩, ⟨(hX HB.out)⟩⟩
  case rest =>
    clear HC2
    try clear p2
    try clear hczz1 hczz2 hczz3 hfzz1 hfzz2 hfzz3
    obtain ⟨kq, x5_1, rfl, HA, HJy1, BKz1, HB⟩ := hcut
    cases kq with
    | zero => exact absurd HA.out (by simp [impl_OpOk.j0])
    | succ kj1 =>
      have H := HA.out
      clear HA
      simp only [impl_OpOk.j0] at H
      by_cases c6 : x5_1 = true
      · subst c6
        rw [if_pos rfl] at H
        replace H := bE H; obtain ⟨t102, A7, H⟩ := H
        by_cases c8 : t102 = true
        case neg =>
          replace c8 := Bool.eq_false_iff.mpr c8
          subst c8
          rw [if_neg nft] at H
          obtain rfl := sI H
          obtain ⟨hczx1, hczx2, hczx3, hfzx1, hfzx2, hfzx3⟩ := cZ3 BKz1.out
          go_wp2_with (first | (refine goesM 176 10 Tryz.func176 #[.int .i64 a0_1] ?_; refine (impl_KeyOk.calls _ _ _ A7.out).mono ?_; rintro e w' ⟨rfl, ⟨nd, rfl⟩⟩; refine ⟨_, rfl, ?_⟩))
          go_ret
          exact ⟨rE, (hX HB.out)⟩
        subst c8
        rw [if_pos rfl] at H
        replace H := bE H; obtain ⟨t103, A9, H⟩ := H
        obtain rfl := sI H
        obtain ⟨hczx1, hczx2, hczx3, hfzx1, hfzx2, hfzx3⟩ := cZ3 BKz1.out
        go_wp2_with (first | (refine goesM 176 10 Tryz.func176 #[.int .i64 a0_1] ?_; refine (impl_KeyOk.calls _ _ _ A7.out).mono ?_; rintro e w' ⟨rfl, ⟨nd, rfl⟩⟩; refine ⟨_, rfl, ?_⟩) | (go_at_call 174; (with_reducible refine (impl_ValOk.calls _ _ _ A9.out).mono ?_); rintro e w' ⟨rfl, ⟨nd, rfl⟩⟩))
        go_ret
        exact ⟨rE, (hX HB.out)⟩
      replace c6 := Bool.eq_false_iff.mpr c6
      subst c6
      rw [if_neg nft] at H
      have HC12 := aM H
      clear H
      go_upto_if 16 with (fail)
      go_cut [16] (fun vx1 wc => ∃ (kq : Nat) (x16_11 : Bool), vx1 = .bool x16_11 ∧ Aside0 (impl_OpOk.j1 kq a0_0 x16_11 a0_0 a0_1 a0_2 = some r) ∧ Aside0 (kq ≤ kj1) ∧ Aside0 (wc.heap[gbz1]? = some (.cells #[.int .i64 a0_0, .int .i64 a0_1, .int .i64 a0_2] 69 (0, 0))) ∧ Aside0 (Below w.heap.size w wc))
      case first =>
        have H := HC12.out
        clear HC12
        by_cases c13 : a0_0 = 3
        case neg =>
          rw [if_neg c13] at H
          obtain ⟨c13b0, c13b1⟩ := eqF c13
          (first | rw [c13b0] | (simp only [i64_w, i32_w]; rw [c13b0]) | skip)
          have H' := aM H
          clear H
          go_wp2
          go_meet
          case rel => exact ⟨_, ((a0_0 == 4)), rS, H', ⟨by have := HJy1.out; first | omega | exact Nat.le_refl _⟩, ⟨(bX BKz1.out)⟩, ⟨(hX HB.out)⟩⟩
        rw [if_pos c13] at H
        obtain ⟨c13b0, c13b1⟩ := eqT c13
        clear c13
        (first | rw [c13b0] | (simp only [i64_w, i32_w]; rw [c13b0]) | skip)
        have H' := aM H
        clear H
        go_wp2
        go_meet
        case rel => exact ⟨_, ((a0_0 == 3)), rS, H', ⟨by have := HJy1.out; first | omega | exact Nat.le_refl _⟩, ⟨(bX BKz1.out)⟩, ⟨(hX HB.out)⟩⟩
      case rest =>
        clear HC12
        try clear p2
        try clear c6
        try clear hczz1 hczz2 hczz3 hfzz1 hfzz2 hfzz3
        obtain ⟨kq, x16_11, rfl, HA, HJw1, BKz1, HB⟩ := hcut
        cases kq with
        | zero => exact absurd HA.out (by simp [impl_OpOk.j1])
        | succ kj11 =>
          have H := HA.out
          clear HA
          simp only [impl_OpOk.j1] at H
          by_cases c14 : x16_11 = true
          · subst c14
            rw [if_pos rfl] at H
            replace H := bE H; obtain ⟨t104, A15, H⟩ := H
            by_cases c16 : t104 = true
            · subst c16
              rw [if_pos rfl] at H
              obtain rfl := sI H
              obtain ⟨hczv1, hczv2, hczv3, hfzv1, hfzv2, hfzv3⟩ := cZ3 BKz1.out
              go_wp2_with (first | (refine goesM 176 21 Tryz.func176 #[.int .i64 a0_1] ?_; refine (impl_KeyOk.calls _ _ _ A15.out).mono ?_; rintro e w' ⟨rfl, ⟨nd, rfl⟩⟩; refine ⟨_, rfl, ?_⟩))
              go_ret
              exact ⟨rE, (hX HB.out)⟩
            replace c16 := Bool.eq_false_iff.mpr c16
            subst c16
            rw [if_neg nft] at H
            obtain rfl := sI H
            obtain ⟨hczv1, hczv2, hczv3, hfzv1, hfzv2, hfzv3⟩ := cZ3 BKz1.out
            go_wp2_with (first | (refine goesM 176 21 Tryz.func176 #[.int .i64 a0_1] ?_; refine (impl_KeyOk.calls _ _ _ A15.out).mono ?_; rintro e w' ⟨rfl, ⟨nd, rfl⟩⟩; refine ⟨_, rfl, ?_⟩))
            go_ret
            exact ⟨rE, (hX HB.out)⟩
          replace c14 := Bool.eq_false_iff.mpr c14
          subst c14
          rw [if_neg nft] at H
          have HC19 := aM H
          clear H
          go_upto_if 27 with (fail)
          go_cut [27] (fun vv1 wc => ∃ (kq : Nat) (x27_18 : Bool), vv1 = .bool x27_18 ∧ Aside0 (impl_OpOk.j2 kq a0_0 x27_18 a0_0 a0_1 a0_2 = some r) ∧ Aside0 (kq ≤ kj11) ∧ Aside0 (wc.heap[gbz1]? = some (.cells #[.int .i64 a0_0, .int .i64 a0_1, .int .i64 a0_2] 69 (0, 0))) ∧ Aside0 (Below w.heap.size w wc))
          case first =>
            have H := HC19.out
            clear HC19
            by_cases c20 : a0_0 = 5
            case neg =>
              rw [if_neg c20] at H
              obtain ⟨c20b0, c20b1⟩ := eqF c20
              (first | rw [c20b0] | (simp only [i64_w, i32_w]; rw [c20b0]) | skip)
              have H' := aM H
              clear H
              go_wp2
              go_meet
              case rel => exact ⟨_, ((a0_0 == 10)), rS, H', ⟨by have := HJy1.out; have := HJw1.out; first | omega | exact Nat.le_refl _⟩, ⟨(bX BKz1.out)⟩, ⟨(hX HB.out)⟩⟩
            rw [if_pos c20] at H
            obtain ⟨c20b0, c20b1⟩ := eqT c20
            clear c20
            (first | rw [c20b0] | (simp only [i64_w, i32_w]; rw [c20b0]) | skip)
            have H' := aM H
            clear H
            go_wp2
            go_meet
            case rel => exact ⟨_, ((a0_0 == 5)), rS, H', ⟨by have := HJy1.out; have := HJw1.out; first | omega | exact Nat.le_refl _⟩, ⟨(bX BKz1.out)⟩, ⟨(hX HB.out)⟩⟩
          case rest =>
            clear HC19
            try clear p2
            try clear c6
            try clear c14
            try clear hczz1 hczz2 hczz3 hfzz1 hfzz2 hfzz3
            obtain ⟨kq, x27_18, rfl, HA, HJu1, BKz1, HB⟩ := hcut
            cases kq with
            | zero => exact absurd HA.out (by simp [impl_OpOk.j2])
            | succ kj18 =>
              have H := HA.out
              clear HA
              simp only [impl_OpOk.j2] at H
              by_cases c21 : x27_18 = true
              · subst c21
                rw [if_pos rfl] at H
                by_cases c22 : a0_1 = 0
                case neg =>
                  rw [if_neg c22] at H
                  obtain ⟨c22b0, c22b1⟩ := eqF c22
                  obtain rfl := sI H
                  obtain ⟨hczt1, hczt2, hczt3, hfzt1, hfzt2, hfzt3⟩ := cZ3 BKz1.out
                  go_wp2
                  go_ret
                  exact ⟨rE, (hX HB.out)⟩
                rw [if_pos c22] at H
                obtain ⟨c22b0, c22b1⟩ := eqT c22
                clear c22
                replace H := bE H; obtain ⟨t105, A23, H⟩ := H
                obtain rfl := sI H
                obtain ⟨hczt1, hczt2, hczt3, hfzt1, hfzt2, hfzt3⟩ := cZ3 BKz1.out
                go_wp2_with (first | (go_at_call 174; (with_reducible refine (impl_ValOk.calls _ _ _ A23.out).mono ?_); rintro e w' ⟨rfl, ⟨nd, rfl⟩⟩))
                go_ret
                exact ⟨rE, (hX HB.out)⟩
              replace c21 := Bool.eq_false_iff.mpr c21
              subst c21
              rw [if_neg nft] at H
              by_cases c26 : a0_0 = 6
              · rw [if_pos c26] at H
                obtain ⟨c26b0, c26b1⟩ := eqT c26
                clear c26
                replace H := bE H; obtain ⟨t106, A27, H⟩ := H
                by_cases c28 : t106 = true
                · subst c28
                  rw [if_pos rfl] at H
                  obtain rfl := sI H
                  obtain ⟨hczt1, hczt2, hczt3, hfzt1, hfzt2, hfzt3⟩ := cZ3 BKz1.out
                  go_wp2_with (first | (refine goesM 177 42 Tryz.func177 #[.int .i64 a0_1] ?_; refine (impl_isClass.calls _ _ _ A27.out).mono ?_; rintro e w' ⟨rfl, ⟨nd, rfl⟩⟩; refine ⟨_, rfl, ?_⟩))
                  go_ret
                  exact ⟨rE, (hX HB.out)⟩
                replace c28 := Bool.eq_false_iff.mpr c28
                subst c28
                rw [if_neg nft] at H
                obtain rfl := sI H
                obtain ⟨hczt1, hczt2, hczt3, hfzt1, hfzt2, hfzt3⟩ := cZ3 BKz1.out
                go_wp2_with (first | (refine goesM 177 42 Tryz.func177 #[.int .i64 a0_1] ?_; refine (impl_isClass.calls _ _ _ A27.out).mono ?_; rintro e w' ⟨rfl, ⟨nd, rfl⟩⟩; refine ⟨_, rfl, ?_⟩))
                go_ret
                exact ⟨rE, (hX HB.out)⟩
              rw [if_neg c26] at H
              obtain ⟨c26b0, c26b1⟩ := eqF c26
              by_cases c31 : a0_0 = 7
              · rw [if_pos c31] at H
                obtain ⟨c31b0, c31b1⟩ := eqT c31
                clear c31
                by_cases c32 : a0_1 = 0
                case neg =>
                  rw [if_neg c32] at H
                  obtain ⟨c32b0, c32b1⟩ := eqF c32
                  obtain rfl := sI H
                  obtain ⟨hczt1, hczt2, hczt3, hfzt1, hfzt2, hfzt3⟩ := cZ3 BKz1.out
                  go_wp2
                  go_ret
                  exact ⟨rE, (hX HB.out)⟩
                rw [if_pos c32] at H
                obtain ⟨c32b0, c32b1⟩ := eqT c32
                clear c32
                obtain rfl := sI H
                obtain ⟨hczt1, hczt2, hczt3, hfzt1, hfzt2, hfzt3⟩ := cZ3 BKz1.out
                go_wp2
                go_ret
                exact ⟨rE, (hX HB.out)⟩
              rw [if_neg c31] at H
              obtain ⟨c31b0, c31b1⟩ := eqF c31
              by_cases c35 : a0_0 = 8
              · rw [if_pos c35] at H
                obtain ⟨c35b0, c35b1⟩ := eqT c35
                clear c35
                by_cases c36 : a0_1 = 0
                case neg =>
                  rw [if_neg c36] at H
                  obtain ⟨c36b0, c36b1⟩ := eqF c36
                  obtain rfl := sI H
                  obtain ⟨hczt1, hczt2, hczt3, hfzt1, hfzt2, hfzt3⟩ := cZ3 BKz1.out
                  go_wp2
                  go_ret
                  exact ⟨rE, (hX HB.out)⟩
                rw [if_pos c36] at H
                obtain ⟨c36b0, c36b1⟩ := eqT c36
                clear c36
                obtain rfl := sI H
                obtain ⟨hczt1, hczt2, hczt3, hfzt1, hfzt2, hfzt3⟩ := cZ3 BKz1.out
                go_wp2
                go_ret
                exact ⟨rE, (hX HB.out)⟩
              rw [if_neg c35] at H
              obtain ⟨c35b0, c35b1⟩ := eqF c35
              by_cases c39 : a0_0 = 9
              case neg =>
                rw [if_neg c39] at H
                obtain ⟨c39b0, c39b1⟩ := eqF c39
                obtain rfl := sI H
                go_wp2
                go_ret
                exact ⟨rE, (hX HB.out)⟩
              rw [if_pos c39] at H
              obtain ⟨c39b0, c39b1⟩ := eqT c39
              clear c39
              by_cases c40 : a0_1 = 0
              case neg =>
                rw [if_neg c40] at H
                obtain ⟨c40b0, c40b1⟩ := eqF c40
                obtain rfl := sI H
                obtain ⟨hczt1, hczt2, hczt3, hfzt1, hfzt2, hfzt3⟩ := cZ3 BKz1.out
                go_wp2
                go_ret
                exact ⟨rE, (hX HB.out)⟩
              rw [if_pos c40] at H
              obtain ⟨c40b0, c40b1⟩ := eqT c40
              clear c40
              obtain rfl := sI H
              obtain ⟨hczt1, hczt2, hczt3, hfzt1, hfzt2, hfzt3⟩ := cZ3 BKz1.out
              go_wp2
              go_ret
              exact ⟨rE, (hX HB.out)⟩
def impl_ThreadOk_1.f (k : Nat) (a0_0 : Int) (a0_1 : Int) (a0_2 : Int) : Option (Bool) := (impl_OpOk.f k a0_0 a0_1 a0_2).bind fun t102 => (some (!t102))
set_option maxHeartbeats 8000000 in
set_option maxRecDepth 100000 in
theorem impl_ThreadOk_1.calls (k : Nat) (a0_0 : Int) (a0_1 : Int) (a0_2 : Int) (r : Bool) (w : World) (h : impl_ThreadOk_1.f k a0_0 a0_1 a0_2 = some r) :
    Calls Tryz.prog 179 #[.agg #[.int .i64 a0_0, .int .i64 a0_1, .int .i64 a0_2]] w fun e w' => e = .returned (.bool r) ∧ Below w.heap.size w w' := by
  have hu69 := Tryz.underlying69
  have HB := aM (Below.refl w.heap.size w)
  have H := h
  unfold impl_ThreadOk_1.f at H
  clear h
  replace H := bE H; obtain ⟨t102, A2, H⟩ := H
  obtain rfl := sI H
  go_enter Tryz.func179, Tryz.ntmps179
  go_wp2_with (first | (refine boxE 1 #[.int .i64 a0_0, .int .i64 a0_1, .int .i64 a0_2] 69 ?_; intro gbz1 hg wz1 hbox hb; have BKz1 := aM (hbox); have GWz1 := aG hg HB; have GEz1 := aG hg HB; replace HB := aS HB hb; clear hb hbox hg; obtain ⟨hczz1, hczz2, hczz3, hfzz1, hfzz2, hfzz3⟩ := cZ3 BKz1.out) | (refine goesM 105 4 Tryz.func105 #[.agg #[.int .i64 a0_0, .int .i64 a0_1, .int .i64 a0_2]] ?_; refine (impl_OpOk.calls _ _ _ _ _ _ A2.out).mono ?_; rintro e wz2 ⟨rfl, hb⟩; refine ⟨_, rfl, ?_⟩; replace BKz1 := aB BKz1 hb; replace HB := aS HB hb; clear hb))
  go_ret
  exact ⟨rE, (hX HB.out)⟩
def impl_Op_210_179.l0 : Nat → List (S69) → Int → Int → Option (Int)
  | 0, _, _, _ => none
  | k + 1, x0, x7, x8 => if x8 < x7 then (if 0 ≤ x8 then (if x8 < (x0.length : Int) then ((impl_ThreadOk_1.f k ((rd_T69 x0 x8).f0) ((rd_T69 x0 x8).f1) ((rd_T69 x0 x8).f2)).bind fun t102 => (if t102 = true then (some x8) else (impl_Op_210_179.l0 k x0 x7 (wrap64 (x8 + 1))))) else (none)) else (none)) else (some (-1))
def impl_Op_210_179.f (k : Nat) (l0 : List (S69))  : Option (Int) := impl_Op_210_179.l0 k l0 (l0.length : Int) 0
set_option maxHeartbeats 8000000 in
set_option maxRecDepth 100000 in
theorem impl_Op_210_179.calls (k : Nat) (A0 : Option Addr) (c0 : Nat) (l0 : List (S69))  (r : Int) (w : World) (hr0 : Kd.C k69 w A0 l0.length l0) (hc0 : l0.length ≤ c0) (h : impl_Op_210_179.f k l0 = some r) :
    Calls Tryz.prog 210 #[.slice A0 l0.length c0, .func (.func 179) #[] #[]] w fun e w' => e = .returned (.int .i64 r) ∧ Below w.heap.size w w' := by
  have hu69 := Tryz.underlying69
  have HR0 := aM hr0
  have HC0 := aM hc0
  clear hr0 hc0
  have HB := aM (Below.refl w.heap.size w)
  have H := h
  unfold impl_Op_210_179.f at H
  clear h
  have H' := aM H
  clear H
  go_enter Tryz.func210, Tryz.ntmps210
  go_wp2
  go_loopg [8] k (fun kq v8 w' => ∃ (x8_1 : Int), v8 = .int .i64 x8_1 ∧ Aside0 (impl_Op_210_179.l0 kq l0 (l0.length : Int) x8_1 = some r) ∧ Aside0 (kq ≤ k) ∧ Aside0 (Below w.heap.size w w'))
  case atStart => exact ⟨(0), rS, H', ⟨Nat.le_refl _⟩, ⟨(hX HB.out)⟩⟩
  case round =>
    clear H'
    try clear p2
    obtain ⟨x8_1, rfl, HA, HKy1, HB⟩ := hrel
    cases gk with
    | zero => exact absurd HA.out (by simp [impl_Op_210_179.l0])
    | succ k1 =>
      have H := HA.out
      clear HA
      simp only [impl_Op_210_179.l0] at H
      by_cases c3 : x8_1 < (l0.length : Int)
      case neg =>
        rw [if_neg c3] at H
        have c3b0 := decide_eq_false c3
        clear c3
        obtain rfl := sI H
        go_wp2
        go_ret
        exact ⟨rE, (hX HB.out)⟩
      rw [if_pos c3] at H
      have c3b0 := decide_eq_true c3
      clear c3
      replace H := ifP H; obtain ⟨c4, H⟩ := H
      have c4b0 := decide_eq_true c4
      clear c4
      replace H := ifP H; obtain ⟨c5, H⟩ := H
      have c5b0 := decide_eq_true c5
      clear c5
      replace H := bE H; obtain ⟨t102, A6, H⟩ := H
      by_cases c7 : t102 = true
      · subst c7
        rw [if_pos rfl] at H
        obtain rfl := sI H
        have px1 : 0 ≤ (x8_1 : Int) := odA
        have qx1 : x8_1 < (l0.length : Int) := odA
        obtain ⟨adx1, ex1, hxx1, hxx2, hxx3⟩ := at_T69b HR0.out HB.out x8_1 px1 qx1
        cases ex1
        replace px1 := eq_true px1
        replace qx1 := eq_true qx1
        go_wp2_with (first | ((with_reducible refine Go.Proofs.YtmljebgideecjaaGreatZ.gate_calleeT (t := 11) rfl ?_); refine Go.Proofs.YtmljebgideecjaaGreatZ.goesT_ (some 16) 11 rfl rfl Tryz.func179 (by kernel_rfl) rfl #[.agg #[.int .i64 ((rd_T69 l0 x8_1).f0), .int .i64 ((rd_T69 l0 x8_1).f1), .int .i64 ((rd_T69 l0 x8_1).f2)]] rfl rfl (by (try simp only [List.map_toArray, List.map_cons, List.map_nil]); first | done | rfl | (simp only [List.length_drop, List.length_take]; rfl)) ?_; (with_reducible refine (impl_ThreadOk_1.calls _ _ _ _ _ _ A6.out).mono ?_); rintro e wx1 ⟨rfl, hb⟩; refine ⟨_, rfl, ?_⟩; replace HB := aS HB hb; clear hb))
        go_ret
        exact ⟨rE, (hX HB.out)⟩
      replace c7 := Bool.eq_false_iff.mpr c7
      subst c7
      rw [if_neg nft] at H
      have H' := aM H
      clear H
      have px1 : 0 ≤ (x8_1 : Int) := odA
      have qx1 : x8_1 < (l0.length : Int) := odA
      obtain ⟨adx1, ex1, hxx1, hxx2, hxx3⟩ := at_T69b HR0.out HB.out x8_1 px1 qx1
      cases ex1
      replace px1 := eq_true px1
      replace qx1 := eq_true qx1
      go_wp2_with (first | ((with_reducible refine Go.Proofs.YtmljebgideecjaaGreatZ.gate_calleeT (t := 11) rfl ?_); refine Go.Proofs.YtmljebgideecjaaGreatZ.goesT_ (some 16) 11 rfl rfl Tryz.func179 (by kernel_rfl) rfl #[.agg #[.int .i64 ((rd_T69 l0 x8_1).f0), .int .i64 ((rd_T69 l0 x8_1).f1), .int .i64 ((rd_T69 l0 x8_1).f2)]] rfl rfl (by (try simp only [List.map_toArray, List.map_cons, List.map_nil]); first | done | rfl | (simp only [List.length_drop, List.length_take]; rfl)) ?_; (with_reducible refine (impl_ThreadOk_1.calls _ _ _ _ _ _ A6.out).mono ?_); rintro e wx1 ⟨rfl, hb⟩; refine ⟨_, rfl, ?_⟩; replace HB := aS HB hb; clear hb))
      go_roundg k1
      case measure => have := HKy1.out; omega
      case rel => exact ⟨(wrap64 (x8_1 + 1)), rS, H', ⟨by have := HKy1.out; omega⟩, ⟨(hX HB.out)⟩⟩
def impl_Op_178_179.f (k : Nat) (l0 : List (S69))  : Option (Bool) := (impl_Op_210_179.f k l0).bind fun t101 => (some (decide (t101 ≥ 0)))
set_option maxHeartbeats 8000000 in
set_option maxRecDepth 100000 in
theorem impl_Op_178_179.calls (k : Nat) (A0 : Option Addr) (c0 : Nat) (l0 : List (S69))  (r : Bool) (w : World) (hr0 : Kd.C k69 w A0 l0.length l0) (hc0 : l0.length ≤ c0) (h : impl_Op_178_179.f k l0 = some r) :
    Calls Tryz.prog 178 #[.slice A0 l0.length c0, .func (.func 179) #[] #[]] w fun e w' => e = .returned (.bool r) ∧ Below w.heap.size w w' := by
  have HR0 := aM hr0
  have HC0 := aM hc0
  clear hr0 hc0
  have HB := aM (Below.refl w.heap.size w)
  have H := h
  unfold impl_Op_178_179.f at H
  clear h
  replace H := bE H; obtain ⟨t101, A3, H⟩ := H
  obtain rfl := sI H
  go_enter Tryz.func178, Tryz.ntmps178
  go_wp2_with (first | (refine goesM 210 7 Tryz.func210 #[.slice A0 l0.length c0, .func (.func 179) #[] #[]] ?_; refine (impl_Op_210_179.calls _ _ _ _ _ _ (cX HR0.out) HC0.out A3.out).mono ?_; rintro e wz1 ⟨rfl, hb⟩; refine ⟨_, rfl, ?_⟩; replace HB := aS HB hb; clear hb))
  go_ret
  exact ⟨rE, (hX HB.out)⟩
def impl_ThreadOk_2.f (a0_0 : Int) (a0_1 : Int) : Option (Bool) := (impl_isPlace.f a0_0).bind fun t102 => (if t102 = true then ((impl_isWordNum.f a0_1).bind fun t103 => (some (!t103))) else (some true))
set_option maxHeartbeats 8000000 in
set_option maxRecDepth 100000 in
theorem impl_ThreadOk_2.calls (a0_0 : Int) (a0_1 : Int) (r : Bool) (w : World) (h : impl_ThreadOk_2.f a0_0 a0_1 = some r) :
    Calls Tryz.prog 181 #[.agg #[.int .i64 a0_0, .int .i64 a0_1]] w fun e w' => e = .returned (.bool r) ∧ Below w.heap.size w w' := by
  have hu172 := Tryz.underlying172
  have HB := aM (Below.refl w.heap.size w)
  have H := h
  unfold impl_ThreadOk_2.f at H
  clear h
  replace H := bE H; obtain ⟨t102, A2, H⟩ := H
  go_enter Tryz.func181, Tryz.ntmps181
  go_wp2_with (first | (refine boxE 1 #[.int .i64 a0_0, .int .i64 a0_1] 172 ?_; intro gbz1 hg wz1 hbox hb; have BKz1 := aM (hbox); have GWz1 := aG hg HB; have GEz1 := aG hg HB; replace HB := aS HB hb; clear hb hbox hg; obtain ⟨hczz1, hczz2, hfzz1, hfzz2⟩ := cZ2 BKz1.out; refine Stop.out ?_))
  refine ⟨?_⟩
  by_cases c3 : t102 = true
  case neg =>
    replace c3 := Bool.eq_false_iff.mpr c3
    subst c3
    rw [if_neg nft] at H
    obtain rfl := sI H
    go_wp2_with (first | (refine goesM 182 5 Tryz.func182 #[.int .i64 a0_0] ?_; refine (impl_isPlace.calls _ _ _ A2.out).mono ?_; rintro e w' ⟨rfl, ⟨nd, rfl⟩⟩; refine ⟨_, rfl, ?_⟩))
    go_ret
    exact ⟨rE, (hX HB.out)⟩
  subst c3
  rw [if_pos rfl] at H
  replace H := bE H; obtain ⟨t103, A4, H⟩ := H
  obtain rfl := sI H
  go_wp2_with (first | (refine goesM 182 5 Tryz.func182 #[.int .i64 a0_0] ?_; refine (impl_isPlace.calls _ _ _ A2.out).mono ?_; rintro e w' ⟨rfl, ⟨nd, rfl⟩⟩; refine ⟨_, rfl, ?_⟩) | (go_at_call 183; (with_reducible refine (impl_isWordNum.calls _ _ _ A4.out).mono ?_); rintro e w' ⟨rfl, ⟨nd, rfl⟩⟩))
  go_ret
  exact ⟨rE, (hX HB.out)⟩
def impl_Pair_211_181.l0 : Nat → List (S172) → Int → Int → Option (Int)
  | 0, _, _, _ => none
  | k + 1, x0, x7, x8 => if x8 < x7 then (if 0 ≤ x8 then (if x8 < (x0.length : Int) then ((impl_ThreadOk_2.f ((rd_T172 x0 x8).f0) ((rd_T172 x0 x8).f1)).bind fun t102 => (if t102 = true then (some x8) else (impl_Pair_211_181.l0 k x0 x7 (wrap64 (x8 + 1))))) else (none)) else (none)) else (some (-1))
def impl_Pair_211_181.f (k : Nat) (l0 : List (S172))  : Option (Int) := impl_Pair_211_181.l0 k l0 (l0.length : Int) 0
set_option maxHeartbeats 8000000 in
set_option maxRecDepth 100000 in
theorem impl_Pair_211_181.calls (k : Nat) (A0 : Option Addr) (c0 : Nat) (l0 : List (S172))  (r : Int) (w : World) (hr0 : Kd.C k172 w A0 l0.length l0) (hc0 : l0.length ≤ c0) (h : impl_Pair_211_181.f k l0 = some r) :
    Calls Tryz.prog 211 #[.slice A0 l0.length c0, .func (.func 181) #[] #[]] w fun e w' => e = .returned (.int .i64 r) ∧ Below w.heap.size w w' := by
  have hu172 := Tryz.underlying172
  have HR0 := aM hr0
  have HC0 := aM hc0
  clear hr0 hc0
  have HB := aM (Below.refl w.heap.size w)
  have H := h
  unfold impl_Pair_211_181.f at H
  clear h
  have H' := aM H
  clear H
  go_enter Tryz.func211, Tryz.ntmps211
  go_wp2
  go_loopg [8] k (fun kq v8 w' => ∃ (x8_1 : Int), v8 = .int .i64 x8_1 ∧ Aside0 (impl_Pair_211_181.l0 kq l0 (l0.length : Int) x8_1 = some r) ∧ Aside0 (kq ≤ k) ∧ Aside0 (Below w.heap.size w w'))
  case atStart => exact ⟨(0), rS, H', ⟨Nat.le_refl _⟩, ⟨(hX HB.out)⟩⟩
  case round =>
    clear H'
    try clear p2
    obtain ⟨x8_1, rfl, HA, HKy1, HB⟩ := hrel
    cases gk with
    | zero => exact absurd HA.out (by simp [impl_Pair_211_181.l0])
    | succ k1 =>
      have H := HA.out
      clear HA
      simp only [impl_Pair_211_181.l0] at H
      by_cases c3 : x8_1 < (l0.length : Int)
      case neg =>
        rw [if_neg c3] at H
        have c3b0 := decide_eq_false c3
        clear c3
        obtain rfl := sI H
        go_wp2
        go_ret
        exact ⟨rE, (hX HB.out)⟩
      rw [if_pos c3] at H
      have c3b0 := decide_eq_true c3
      clear c3
      replace H := ifP H; obtain ⟨c4, H⟩ := H
      have c4b0 := decide_eq_true c4
      clear c4
      replace H := ifP H; obtain ⟨c5, H⟩ := H
      have c5b0 := decide_eq_true c5
      clear c5
      replace H := bE H; obtain ⟨t102, A6, H⟩ := H
      by_cases c7 : t102 = true
      · subst c7
        rw [if_pos rfl] at H
        obtain rfl := sI H
        have px1 : 0 ≤ (x8_1 : Int) := odA
        have qx1 : x8_1 < (l0.length : Int) := odA
        obtain ⟨adx1, ex1, hxx1, hxx2⟩ := at_T172b HR0.out HB.out x8_1 px1 qx1
        cases ex1
        replace px1 := eq_true px1
        replace qx1 := eq_true qx1
        go_wp2_with (first | ((with_reducible refine Go.Proofs.YtmljebgideecjaaGreatZ.gate_calleeT (t := 11) rfl ?_); refine Go.Proofs.YtmljebgideecjaaGreatZ.goesT_ (some 16) 11 rfl rfl Tryz.func181 (by kernel_rfl) rfl #[.agg #[.int .i64 ((rd_T172 l0 x8_1).f0), .int .i64 ((rd_T172 l0 x8_1).f1)]] rfl rfl (by (try simp only [List.map_toArray, List.map_cons, List.map_nil]); first | done | rfl | (simp only [List.length_drop, List.length_take]; rfl)) ?_; (with_reducible refine (impl_ThreadOk_2.calls _ _ _ _ A6.out).mono ?_); rintro e wx1 ⟨rfl, hb⟩; refine ⟨_, rfl, ?_⟩; replace HB := aS HB hb; clear hb))
        go_ret
        exact ⟨rE, (hX HB.out)⟩
      replace c7 := Bool.eq_false_iff.mpr c7
      subst c7
      rw [if_neg nft] at H
      have H' := aM H
      clear H
      have px1 : 0 ≤ (x8_1 : Int) := odA
      have qx1 : x8_1 < (l0.length : Int) := odA
      obtain ⟨adx1, ex1, hxx1, hxx2⟩ := at_T172b HR0.out HB.out x8_1 px1 qx1
      cases ex1
      replace px1 := eq_true px1
      replace qx1 := eq_true qx1
      go_wp2_with (first | ((with_reducible refine Go.Proofs.YtmljebgideecjaaGreatZ.gate_calleeT (t := 11) rfl ?_); refine Go.Proofs.YtmljebgideecjaaGreatZ.goesT_ (some 16) 11 rfl rfl Tryz.func181 (by kernel_rfl) rfl #[.agg #[.int .i64 ((rd_T172 l0 x8_1).f0), .int .i64 ((rd_T172 l0 x8_1).f1)]] rfl rfl (by (try simp only [List.map_toArray, List.map_cons, List.map_nil]); first | done | rfl | (simp only [List.length_drop, List.length_take]; rfl)) ?_; (with_reducible refine (impl_ThreadOk_2.calls _ _ _ _ A6.out).mono ?_); rintro e wx1 ⟨rfl, hb⟩; refine ⟨_, rfl, ?_⟩; replace HB := aS HB hb; clear hb))
      go_roundg k1
      case measure => have := HKy1.out; omega
      case rel => exact ⟨(wrap64 (x8_1 + 1)), rS, H', ⟨by have := HKy1.out; omega⟩, ⟨(hX HB.out)⟩⟩
def impl_Pair_180_181.f (k : Nat) (l0 : List (S172))  : Option (Bool) := (impl_Pair_211_181.f k l0).bind fun t101 => (some (decide (t101 ≥ 0)))
set_option maxHeartbeats 8000000 in
set_option maxRecDepth 100000 in
theorem impl_Pair_180_181.calls (k : Nat) (A0 : Option Addr) (c0 : Nat) (l0 : List (S172))  (r : Bool) (w : World) (hr0 : Kd.C k172 w A0 l0.length l0) (hc0 : l0.length ≤ c0) (h : impl_Pair_180_181.f k l0 = some r) :
    Calls Tryz.prog 180 #[.slice A0 l0.length c0, .func (.func 181) #[] #[]] w fun e w' => e = .returned (.bool r) ∧ Below w.heap.size w w' := by
  have HR0 := aM hr0
  have HC0 := aM hc0
  clear hr0 hc0
  have HB := aM (Below.refl w.heap.size w)
  have H := h
  unfold impl_Pair_180_181.f at H
  clear h
  replace H := bE H; obtain ⟨t101, A3, H⟩ := H
  obtain rfl := sI H
  go_enter Tryz.func180, Tryz.ntmps180
  go_wp2_with (first | (refine goesM 211 7 Tryz.func211 #[.slice A0 l0.length c0, .func (.func 181) #[] #[]] ?_; refine (impl_Pair_211_181.calls _ _ _ _ _ _ (cX HR0.out) HC0.out A3.out).mono ?_; rintro e wz1 ⟨rfl, hb⟩; refine ⟨_, rfl, ?_⟩; replace HB := aS HB hb; clear hb))
  go_ret
  exact ⟨rE, (hX HB.out)⟩
def impl_ThreadOk_3.f (a0_0 : Int) (a0_1 : Int) (a0_2 : Int) (a0_3 : Int) (a1 : Int) : Option (Bool) := (impl_from.f a0_0 0 (wrap64 (a1 - 1))).bind fun t102 => (if t102 = true then ((impl_from.f a0_1 1 1000000).bind fun t103 => (if t103 = true then ((impl_from.f a0_2 0 20).bind fun t104 => (if t104 = true then ((impl_from.f a0_3 0 20).bind fun t105 => (some (!t105))) else (some true))) else (some true))) else (some true))
set_option maxHeartbeats 8000000 in
set_option maxRecDepth 100000 in
theorem impl_ThreadOk_3.calls (a0_0 : Int) (a0_1 : Int) (a0_2 : Int) (a0_3 : Int) (gc1 : Nat) (a1 : Int) (r : Bool) (w : World) (hbc1 : w.heap[gc1]? = some (.cells #[.int .i64 a1] 3 (0, 0))) (h : impl_ThreadOk_3.f a0_0 a0_1 a0_2 a0_3 a1 = some r) :
    Calls Tryz.prog 185 #[.agg #[.int .i64 a0_0, .int .i64 a0_1, .int .i64 a0_2, .int .i64 a0_3], .pointer (some ⟨gc1, 0, none⟩)] w fun e w' => e = .returned (.bool r) ∧ Below w.heap.size w w' := by
  have hu174 := Tryz.underlying174
  have BKz1 := aM hbc1
  clear hbc1
  have HB := aM (Below.refl w.heap.size w)
  have H := h
  unfold impl_ThreadOk_3.f at H
  clear h
  replace H := bE H; obtain ⟨tz1, Az1, H⟩ := H
  by_cases c4 : tz1 = true
  case neg =>
    replace c4 := Bool.eq_false_iff.mpr c4
    subst c4
    rw [if_neg nft] at H
    obtain rfl := sI H
    go_enter Tryz.func185, Tryz.ntmps185
    go_wp2_with (first | (refine boxE 2 #[.int .i64 a0_0, .int .i64 a0_1, .int .i64 a0_2, .int .i64 a0_3] 174 ?_; intro gbz1 hg wz4 hbox hb; have BKz2 := aM (hbox); have GWz1 := aG hg HB; have GEz1 := aG hg HB; have NBz1 := aL hg BKz1; have NBz2 := aR hg BKz1; replace BKz1 := aB BKz1 hb; replace HB := aS HB hb; clear hb hbox hg; have hnbz4 := NBz2.out; have hncz4 := NBz1.out; obtain ⟨hczz16, hczz17, hczz18, hczz19, hfzz16, hfzz17, hfzz18, hfzz19⟩ := cZ4 BKz2.out; obtain ⟨hczz20, hfzz20⟩ := cZ1 BKz1.out) | (refine goesM 102 8 Tryz.func102 #[.int .i64 a0_0, .int .i64 0, .int .i64 (wrap64 (a1 - 1))] ?_; refine (impl_from.calls a0_0 0 (wrap64 (a1 - 1)) false _ Az1.out).mono ?_; rintro e w' ⟨rfl, ⟨nd, rfl⟩⟩; refine ⟨_, rfl, ?_⟩))
    go_ret
    exact ⟨rE, (hX HB.out)⟩
  subst c4
  rw [if_pos rfl] at H
  replace H := bE H; obtain ⟨tz2, Az2, H⟩ := H
  by_cases c6 : tz2 = true
  case neg =>
    replace c6 := Bool.eq_false_iff.mpr c6
    subst c6
    rw [if_neg nft] at H
    obtain rfl := sI H
    go_enter Tryz.func185, Tryz.ntmps185
    go_wp2_with (first | (refine boxE 2 #[.int .i64 a0_0, .int .i64 a0_1, .int .i64 a0_2, .int .i64 a0_3] 174 ?_; intro gbz1 hg wz3 hbox hb; have BKz2 := aM (hbox); have GWz1 := aG hg HB; have GEz1 := aG hg HB; have NBz1 := aL hg BKz1; have NBz2 := aR hg BKz1; replace BKz1 := aB BKz1 hb; replace HB := aS HB hb; clear hb hbox hg; have hnbz3 := NBz2.out; have hncz3 := NBz1.out; obtain ⟨hczz11, hczz12, hczz13, hczz14, hfzz11, hfzz12, hfzz13, hfzz14⟩ := cZ4 BKz2.out; obtain ⟨hczz15, hfzz15⟩ := cZ1 BKz1.out) | (refine goesM 102 8 Tryz.func102 #[.int .i64 a0_0, .int .i64 0, .int .i64 (wrap64 (a1 - 1))] ?_; refine (impl_from.calls a0_0 0 (wrap64 (a1 - 1)) true _ Az1.out).mono ?_; rintro e w' ⟨rfl, ⟨nd, rfl⟩⟩; refine ⟨_, rfl, ?_⟩) | (go_at_call 102; (with_reducible refine (impl_from.calls a0_1 1 1000000 false _ Az2.out).mono ?_); rintro e w' ⟨rfl, ⟨nd, rfl⟩⟩))
    go_ret
    exact ⟨rE, (hX HB.out)⟩
  subst c6
  rw [if_pos rfl] at H
  replace H := bE H; obtain ⟨tz3, Az3, H⟩ := H
  by_cases c8 : tz3 = true
  case neg =>
    replace c8 := Bool.eq_false_iff.mpr c8
    subst c8
    rw [if_neg nft] at H
    obtain rfl := sI H
    go_enter Tryz.func185, Tryz.ntmps185
    go_wp2_with (first | (refine boxE 2 #[.int .i64 a0_0, .int .i64 a0_1, .int .i64 a0_2, .int .i64 a0_3] 174 ?_; intro gbz1 hg wz2 hbox hb; have BKz2 := aM (hbox); have GWz1 := aG hg HB; have GEz1 := aG hg HB; have NBz1 := aL hg BKz1; have NBz2 := aR hg BKz1; replace BKz1 := aB BKz1 hb; replace HB := aS HB hb; clear hb hbox hg; have hnbz2 := NBz2.out; have hncz2 := NBz1.out; obtain ⟨hczz6, hczz7, hczz8, hczz9, hfzz6, hfzz7, hfzz8, hfzz9⟩ := cZ4 BKz2.out; obtain ⟨hczz10, hfzz10⟩ := cZ1 BKz1.out) | (refine goesM 102 8 Tryz.func102 #[.int .i64 a0_0, .int .i64 0, .int .i64 (wrap64 (a1 - 1))] ?_; refine (impl_from.calls a0_0 0 (wrap64 (a1 - 1)) true _ Az1.out).mono ?_; rintro e w' ⟨rfl, ⟨nd, rfl⟩⟩; refine ⟨_, rfl, ?_⟩) | (go_at_call 102; (with_reducible refine (impl_from.calls a0_1 1 1000000 true _ Az2.out).mono ?_); rintro e w' ⟨rfl, ⟨nd, rfl⟩⟩) | (go_at_call 102; (with_reducible refine (impl_from.calls a0_2 0 20 false _ Az3.out).mono ?_); rintro e w' ⟨rfl, ⟨nd, rfl⟩⟩))
    go_ret
    exact ⟨rE, (hX HB.out)⟩
  subst c8
  rw [if_pos rfl] at H
  replace H := bE H; obtain ⟨tz4, Az4, H⟩ := H
  obtain rfl := sI H
  go_enter Tryz.func185, Tryz.ntmps185
  go_wp2_with (first | (refine boxE 2 #[.int .i64 a0_0, .int .i64 a0_1, .int .i64 a0_2, .int .i64 a0_3] 174 ?_; intro gbz1 hg wz1 hbox hb; have BKz2 := aM (hbox); have GWz1 := aG hg HB; have GEz1 := aG hg HB; have NBz1 := aL hg BKz1; have NBz2 := aR hg BKz1; replace BKz1 := aB BKz1 hb; replace HB := aS HB hb; clear hb hbox hg; have hnbz1 := NBz2.out; have hncz1 := NBz1.out; obtain ⟨hczz1, hczz2, hczz3, hczz4, hfzz1, hfzz2, hfzz3, hfzz4⟩ := cZ4 BKz2.out; obtain ⟨hczz5, hfzz5⟩ := cZ1 BKz1.out) | (refine goesM 102 8 Tryz.func102 #[.int .i64 a0_0, .int .i64 0, .int .i64 (wrap64 (a1 - 1))] ?_; refine (impl_from.calls a0_0 0 (wrap64 (a1 - 1)) true _ Az1.out).mono ?_; rintro e w' ⟨rfl, ⟨nd, rfl⟩⟩; refine ⟨_, rfl, ?_⟩) | (go_at_call 102; (with_reducible refine (impl_from.calls a0_1 1 1000000 true _ Az2.out).mono ?_); rintro e w' ⟨rfl, ⟨nd, rfl⟩⟩) | (go_at_call 102; (with_reducible refine (impl_from.calls a0_2 0 20 true _ Az3.out).mono ?_); rintro e w' ⟨rfl, ⟨nd, rfl⟩⟩) | (go_at_call 102; (with_reducible refine (impl_from.calls a0_3 0 20 tz4 _ Az4.out).mono ?_); rintro e w' ⟨rfl, ⟨nd, rfl⟩⟩))
  go_ret
  exact ⟨rE, (hX HB.out)⟩
def impl_Help_212_185.l0 : Nat → List (S174) → Int → Int → Int → Option (Int)
  | 0, _, _, _, _ => none
  | k + 1, x0, x7, x8, x9002000 => if x8 < x7 then (if 0 ≤ x8 then (if x8 < (x0.length : Int) then ((impl_ThreadOk_3.f ((rd_T174 x0 x8).f0) ((rd_T174 x0 x8).f1) ((rd_T174 x0 x8).f2) ((rd_T174 x0 x8).f3) x9002000).bind fun t102 => (if t102 = true then (some x8) else (impl_Help_212_185.l0 k x0 x7 (wrap64 (x8 + 1)) x9002000))) else (none)) else (none)) else (some (-1))
def impl_Help_212_185.f (k : Nat) (l0 : List (S174)) (a1 : Int) : Option (Int) := impl_Help_212_185.l0 k l0 (l0.length : Int) 0 a1
set_option maxHeartbeats 8000000 in
set_option maxRecDepth 100000 in
theorem impl_Help_212_185.calls (k : Nat) (A0 : Option Addr) (c0 : Nat) (l0 : List (S174)) (gc1 : Nat) (a1 : Int) (r : Int) (w : World) (hr0 : Kd.C k174 w A0 l0.length l0) (hc0 : l0.length ≤ c0) (hbc1 : w.heap[gc1]? = some (.cells #[.int .i64 a1] 3 (0, 0))) (h : impl_Help_212_185.f k l0 a1 = some r) :
    Calls Tryz.prog 212 #[.slice A0 l0.length c0, .func (.func 185) #[] #[.pointer (some ⟨gc1, 0, none⟩)]] w fun e w' => e = .returned (.int .i64 r) ∧ Below w.heap.size w w' := by
  have hu174 := Tryz.underlying174
  have HR0 := aM hr0
  have HC0 := aM hc0
  clear hr0 hc0
  have BKz1 := aM hbc1
  clear hbc1
  have HB := aM (Below.refl w.heap.size w)
  have H := h
  unfold impl_Help_212_185.f at H
  clear h
  have H' := aM H
  clear H
  go_enter Tryz.func212, Tryz.ntmps212
  go_wp2
  go_loopg [8] k (fun kq v8 w' => ∃ (x8_1 : Int), v8 = .int .i64 x8_1 ∧ Aside0 (impl_Help_212_185.l0 kq l0 (l0.length : Int) x8_1 a1 = some r) ∧ Aside0 (kq ≤ k) ∧ Aside0 (w'.heap[gc1]? = some (.cells #[.int .i64 a1] 3 (0, 0))) ∧ Aside0 (Below w.heap.size w w'))
  case atStart => exact ⟨(0), rS, H', ⟨Nat.le_refl _⟩, ⟨(bX BKz1.out)⟩, ⟨(hX HB.out)⟩⟩
  case round =>
    clear H'
    try clear p2
    obtain ⟨x8_1, rfl, HA, HKy1, BKz1, HB⟩ := hrel
    cases gk with
    | zero => exact absurd HA.out (by simp [impl_Help_212_185.l0])
    | succ k1 =>
      have H := HA.out
      clear HA
      simp only [impl_Help_212_185.l0] at H
      by_cases c3 : x8_1 < (l0.length : Int)
      case neg =>
        rw [if_neg c3] at H
        have c3b0 := decide_eq_false c3
        clear c3
        obtain rfl := sI H
        go_wp2
        go_ret
        exact ⟨rE, (hX HB.out)⟩
      rw [if_pos c3] at H
      have c3b0 := decide_eq_true c3
      clear c3
      replace H := ifP H; obtain ⟨c4, H⟩ := H
      have c4b0 := decide_eq_true c4
      clear c4
      replace H := ifP H; obtain ⟨c5, H⟩ := H
      have c5b0 := decide_eq_true c5
      clear c5
      replace H := bE H; obtain ⟨t102, A6, H⟩ := H
      by_cases c7 : t102 = true
      · subst c7
        rw [if_pos rfl] at H
        obtain rfl := sI H
        have px1 : 0 ≤ (x8_1 : Int) := odA
        have qx1 : x8_1 < (l0.length : Int) := odA
        obtain ⟨adx1, ex1, hxx1, hxx2, hxx3, hxx4⟩ := at_T174b HR0.out HB.out x8_1 px1 qx1
        cases ex1
        replace px1 := eq_true px1
        replace qx1 := eq_true qx1
        go_wp2_with (first | ((with_reducible refine Go.Proofs.YtmljebgideecjaaGreatZ.gate_calleeT (t := 11) rfl ?_); refine Go.Proofs.YtmljebgideecjaaGreatZ.goesTC_ (some 16) 11 rfl rfl Tryz.func185 (by kernel_rfl) rfl #[.agg #[.int .i64 ((rd_T174 l0 x8_1).f0), .int .i64 ((rd_T174 l0 x8_1).f1), .int .i64 ((rd_T174 l0 x8_1).f2), .int .i64 ((rd_T174 l0 x8_1).f3)]] #[.pointer (some ⟨gc1, 0, none⟩)] #[.agg #[.int .i64 ((rd_T174 l0 x8_1).f0), .int .i64 ((rd_T174 l0 x8_1).f1), .int .i64 ((rd_T174 l0 x8_1).f2), .int .i64 ((rd_T174 l0 x8_1).f3)], .pointer (some ⟨gc1, 0, none⟩)] rfl rfl (by (try simp only [List.map_toArray, List.map_cons, List.map_nil]); first | done | rfl | (simp only [List.length_drop, List.length_take]; rfl)) rfl ?_; (with_reducible refine (impl_ThreadOk_3.calls ((rd_T174 l0 x8_1).f0) ((rd_T174 l0 x8_1).f1) ((rd_T174 l0 x8_1).f2) ((rd_T174 l0 x8_1).f3) gc1 a1 true _ ?side1 A6.out).mono ?_); (case side1 => exact (bX BKz1.out)); rintro e wx1 ⟨rfl, hb⟩; refine ⟨_, rfl, ?_⟩; replace BKz1 := aB BKz1 hb; replace HB := aS HB hb; clear hb))
        go_ret
        exact ⟨rE, (hX HB.out)⟩
      replace c7 := Bool.eq_false_iff.mpr c7
      subst c7
      rw [if_neg nft] at H
      have H' := aM H
      clear H
      have px1 : 0 ≤ (x8_1 : Int) := odA
      have qx1 : x8_1 < (l0.length : Int) := odA
      obtain ⟨adx1, ex1, hxx1, hxx2, hxx3, hxx4⟩ := at_T174b HR0.out HB.out x8_1 px1 qx1
      cases ex1
      replace px1 := eq_true px1
      replace qx1 := eq_true qx1
      go_wp2_with (first | ((with_reducible refine Go.Proofs.YtmljebgideecjaaGreatZ.gate_calleeT (t := 11) rfl ?_); refine Go.Proofs.YtmljebgideecjaaGreatZ.goesTC_ (some 16) 11 rfl rfl Tryz.func185 (by kernel_rfl) rfl #[.agg #[.int .i64 ((rd_T174 l0 x8_1).f0), .int .i64 ((rd_T174 l0 x8_1).f1), .int .i64 ((rd_T174 l0 x8_1).f2), .int .i64 ((rd_T174 l0 x8_1).f3)]] #[.pointer (some ⟨gc1, 0, none⟩)] #[.agg #[.int .i64 ((rd_T174 l0 x8_1).f0), .int .i64 ((rd_T174 l0 x8_1).f1), .int .i64 ((rd_T174 l0 x8_1).f2), .int .i64 ((rd_T174 l0 x8_1).f3)], .pointer (some ⟨gc1, 0, none⟩)] rfl rfl (by (try simp only [List.map_toArray, List.map_cons, List.map_nil]); first | done | rfl | (simp only [List.length_drop, List.length_take]; rfl)) rfl ?_; (with_reducible refine (impl_ThreadOk_3.calls ((rd_T174 l0 x8_1).f0) ((rd_T174 l0 x8_1).f1) ((rd_T174 l0 x8_1).f2) ((rd_T174 l0 x8_1).f3) gc1 a1 false _ ?side1 A6.out).mono ?_); (case side1 => exact (bX BKz1.out)); rintro e wx1 ⟨rfl, hb⟩; refine ⟨_, rfl, ?_⟩; replace BKz1 := aB BKz1 hb; replace HB := aS HB hb; clear hb))
      go_roundg k1
      case measure => have := HKy1.out; omega
      case rel => exact ⟨(wrap64 (x8_1 + 1)), rS, H', ⟨by have := HKy1.out; omega⟩, ⟨(bX BKz1.out)⟩, ⟨(hX HB.out)⟩⟩
def impl_Help_184_185.f (k : Nat) (l0 : List (S174)) (a1 : Int) : Option (Bool) := (impl_Help_212_185.f k l0 a1).bind fun t101 => (some (decide (t101 ≥ 0)))
set_option maxHeartbeats 8000000 in
set_option maxRecDepth 100000 in
theorem impl_Help_184_185.calls (k : Nat) (A0 : Option Addr) (c0 : Nat) (l0 : List (S174)) (gc1 : Nat) (a1 : Int) (r : Bool) (w : World) (hr0 : Kd.C k174 w A0 l0.length l0) (hc0 : l0.length ≤ c0) (hbc1 : w.heap[gc1]? = some (.cells #[.int .i64 a1] 3 (0, 0))) (h : impl_Help_184_185.f k l0 a1 = some r) :
    Calls Tryz.prog 184 #[.slice A0 l0.length c0, .func (.func 185) #[] #[.pointer (some ⟨gc1, 0, none⟩)]] w fun e w' => e = .returned (.bool r) ∧ Below w.heap.size w w' := by
  have HR0 := aM hr0
  have HC0 := aM hc0
  clear hr0 hc0
  have BKz1 := aM hbc1
  clear hbc1
  have HB := aM (Below.refl w.heap.size w)
  have H := h
  unfold impl_Help_184_185.f at H
  clear h
  replace H := bE H; obtain ⟨tz1, Az1, H⟩ := H
  obtain rfl := sI H
  go_enter Tryz.func184, Tryz.ntmps184
  go_wp2_with (first | (refine goesM 212 7 Tryz.func212 #[.slice A0 l0.length c0, .func (.func 185) #[] #[.pointer (some ⟨gc1, 0, none⟩)]] ?_; refine (impl_Help_212_185.calls k _ _ l0 gc1 a1 tz1 _ (cX HR0.out) HC0.out (by exact (bX BKz1.out)) Az1.out).mono ?_; rintro e wz1 ⟨rfl, hb⟩; refine ⟨_, rfl, ?_⟩; replace BKz1 := aB BKz1 hb; replace HB := aS HB hb; clear hb))
  go_ret
  exact ⟨rE, (hX HB.out)⟩
mutual
def impl_ThreadOk.j0 : Nat → Bool → List (S69) → Int → Bool → List (S172) → List (S174) → Int → Option (Bool)
  | 0, _, _, _, _, _, _, _ => none
  | k + 1, x46, x102000, x102001, x102002, x102003, x102004, x103000 => if x46 = true then (some false) else (if x102002 = true then (impl_ThreadOk.j1 k false x102000 x102001 x102002 x102003 x102004 x103000) else (impl_ThreadOk.j1 k (decide ((wrap64 ((x102003.length : Int) + (x102004.length : Int))) > 0)) x102000 x102001 x102002 x102003 x102004 x103000))
def impl_ThreadOk.j1 : Nat → Bool → List (S69) → Int → Bool → List (S172) → List (S174) → Int → Option (Bool)
  | 0, _, _, _, _, _, _, _ => none
  | k + 1, x59, x102000, x102001, x102002, x102003, x102004, x103000 => if x59 = true then (some false) else ((impl_Pair_180_181.f k x102003).bind fun t105 => (if t105 = true then (some false) else ((impl_Help_184_185.f k x102004 x103000).bind fun t106 => (some (!t106)))))
end
def impl_ThreadOk.f (k : Nat) (l0_0 : List (S69)) (a0_1 : Int) (a0_2 : Bool) (l0_3 : List (S172)) (l0_4 : List (S174)) (a1 : Int) : Option (Bool) := if (l0_0.length : Int) > 8 then (impl_ThreadOk.j0 k true l0_0 a0_1 a0_2 l0_3 l0_4 a1) else ((impl_Op_178_179.f k l0_0).bind fun t103 => (if t103 = true then (impl_ThreadOk.j0 k true l0_0 a0_1 a0_2 l0_3 l0_4 a1) else ((impl_from.f a0_1 0 (l0_0.length : Int)).bind fun t104 => (if t104 = true then (if a0_2 = true then (if a0_1 = (l0_0.length : Int) then (impl_ThreadOk.j0 k true l0_0 a0_1 a0_2 l0_3 l0_4 a1) else (if (l0_3.length : Int) > 12 then (impl_ThreadOk.j0 k true l0_0 a0_1 a0_2 l0_3 l0_4 a1) else (impl_ThreadOk.j0 k (decide ((l0_4.length : Int) > 2)) l0_0 a0_1 a0_2 l0_3 l0_4 a1))) else (if (l0_3.length : Int) > 12 then (impl_ThreadOk.j0 k true l0_0 a0_1 a0_2 l0_3 l0_4 a1) else (impl_ThreadOk.j0 k (decide ((l0_4.length : Int) > 2)) l0_0 a0_1 a0_2 l0_3 l0_4 a1))) else (impl_ThreadOk.j0 k true l0_0 a0_1 a0_2 l0_3 l0_4 a1)))))
set_option maxHeartbeats 8000000 in
set_option maxRecDepth 100000 in
theorem impl_ThreadOk.calls (k : Nat) (A0_0 : Option Addr) (c0_0 : Nat) (l0_0 : List (S69)) (a0_1 : Int) (a0_2 : Bool) (A0_3 : Option Addr) (c0_3 : Nat) (l0_3 : List (S172)) (A0_4 : Option Addr) (c0_4 : Nat) (l0_4 : List (S174)) (a1 : Int) (r : Bool) (w : World) (hr0_0 : Kd.C k69 w A0_0 l0_0.length l0_0) (hc0_0 : l0_0.length ≤ c0_0) (hr0_3 : Kd.C k172 w A0_3 l0_3.length l0_3) (hc0_3 : l0_3.length ≤ c0_3) (hr0_4 : Kd.C k174 w A0_4 l0_4.length l0_4) (hc0_4 : l0_4.length ≤ c0_4) (h : impl_ThreadOk.f k l0_0 a0_1 a0_2 l0_3 l0_4 a1 = some r) :
    Calls Tryz.prog 106 #[.agg #[.slice A0_0 l0_0.length c0_0, .int .i64 a0_1, .bool a0_2, .slice A0_3 l0_3.length c0_3, .slice A0_4 l0_4.length c0_4], .int .i64 a1] w fun e w' => e = .returned (.bool r) ∧ Below w.heap.size w w' := by
  have hu97 := Tryz.underlying97
  have HR0_0 := aM hr0_0
  have HC0_0 := aM hc0_0
  clear hr0_0 hc0_0
  have HR0_3 := aM hr0_3
  have HC0_3 := aM hc0_3
  clear hr0_3 hc0_3
  have HR0_4 := aM hr0_4
  have HC0_4 := aM hc0_4
  clear hr0_4 hc0_4
  have HB := aM (Below.refl w.heap.size w)
  have H := h
  unfold impl_ThreadOk.f at H
  clear h
  have HC3 := aM H
  clear H
  go_enter Tryz.func106, Tryz.ntmps106
  go_upto_region 1 with (first | ((with_reducible refine gate_dst (N := 2) rfl ?_); (try (refine gate_guard (by rfl) ?_; dsimp only)); refine boxF 2 #[.slice A0_0 l0_0.length c0_0, .int .i64 a0_1, .bool a0_2, .slice A0_3 l0_3.length c0_3, .slice A0_4 l0_4.length c0_4] 97 ?_; intro gbz1 hg wz1 hbox hb; have BKz1 := aM (hbox); have GWz1 := aG hg HB; have GEz1 := aG hg HB; replace HB := aS HB hb; clear hb hbox hg) | ((with_reducible refine gate_dst (N := 3) rfl ?_); (try (refine gate_guard (by rfl) ?_; dsimp only)); refine boxF 3 #[.int .i64 a1] 3 ?_; intro gbz2 hg wz2 hbox hb; have BKz2 := aM (hbox); have GWz2 := aG hg HB; have GEz2 := aG hg HB; have NBz1 := aL hg BKz1; have NBz2 := aR hg BKz1; replace BKz1 := aB BKz1 hb; replace HB := aS HB hb; clear hb hbox hg))
  (try simp only [Act.put, List.setIfInBounds_toArray, List.set_cons_zero, List.set_cons_succ])
  go_cut [46] (fun vz1 wc => ∃ (kq : Nat) (x46_2 : Bool), vz1 = .bool x46_2 ∧ Aside0 (impl_ThreadOk.j0 kq x46_2 l0_0 a0_1 a0_2 l0_3 l0_4 a1 = some r) ∧ Aside0 (kq ≤ k) ∧ Aside0 (wc.heap[gbz1]? = some (.cells #[(.slice A0_0 l0_0.length c0_0), .int .i64 a0_1, .bool a0_2, (.slice A0_3 l0_3.length c0_3), (.slice A0_4 l0_4.length c0_4)] 97 (0, 0))) ∧ Aside0 (wc.heap[gbz2]? = some (.cells #[.int .i64 a1] 3 (0, 0))) ∧ Aside0 (Below w.heap.size w wc))
  case first =>
    have H := HC3.out
    clear HC3
    by_cases c6 : (l0_0.length : Int) > 8
    · rw [if_pos c6] at H
      have c6b0 := decide_eq_true c6
      have c6b1 : decide (8 < l0_0.length) = true := decide_eq_true (by omega)
      clear c6
      (first | rw [c6b0] | (simp only [i64_w, i32_w]; rw [c6b0]) | skip)
      have H' := aM H
      clear H
      have hnby1 := NBz1.out
      have hncy1 := NBz2.out
      obtain ⟨hczy1, hczy2, hczy3, hczy4, hczy5, hfzy1, hfzy2, hfzy3, hfzy4, hfzy5⟩ := cZ5 BKz1.out
      go_wp2
      go_meet
      case rel => exact ⟨_, (true), rS, H', ⟨by first | omega | exact Nat.le_refl _⟩, ⟨(bX BKz1.out)⟩, ⟨(bX BKz2.out)⟩, ⟨(hX HB.out)⟩⟩
    rw [if_neg c6] at H
    have c6b0 := decide_eq_false c6
    have c6b1 : decide (8 < l0_0.length) = false := decide_eq_false (by omega)
    clear c6
    (first | rw [c6b0] | (simp only [i64_w, i32_w]; rw [c6b0]) | skip)
    replace H := bE H; obtain ⟨t103, A9, H⟩ := H
    by_cases c10 : t103 = true
    · subst c10
      rw [if_pos rfl] at H
      have H' := aM H
      clear H
      have hnby1 := NBz1.out
      have hncy1 := NBz2.out
      obtain ⟨hczy1, hczy2, hczy3, hczy4, hczy5, hfzy1, hfzy2, hfzy3, hfzy4, hfzy5⟩ := cZ5 BKz1.out
      go_wp2_with (first | (go_at_call 178; (with_reducible refine (impl_Op_178_179.calls _ _ _ _ _ _ (cC HR0_0.out HB.out) HC0_0.out A9.out).mono ?_); rintro e wy1 ⟨rfl, hb⟩; replace BKz1 := aB BKz1 hb; replace BKz2 := aB BKz2 hb; replace HB := aS HB hb; clear hb))
      go_meet
      case rel => exact ⟨_, (true), rS, H', ⟨by first | omega | exact Nat.le_refl _⟩, ⟨(bX BKz1.out)⟩, ⟨(bX BKz2.out)⟩, ⟨(hX HB.out)⟩⟩
    replace c10 := Bool.eq_false_iff.mpr c10
    subst c10
    rw [if_neg nft] at H
    replace H := bE H; obtain ⟨t104, A14, H⟩ := H
    have hnby1 := NBz1.out
    have hncy1 := NBz2.out
    obtain ⟨hczy1, hczy2, hczy3, hczy4, hczy5, hfzy1, hfzy2, hfzy3, hfzy4, hfzy5⟩ := cZ5 BKz1.out
    go_wp2_with (first | (go_at_call 178; (with_reducible refine (impl_Op_178_179.calls _ _ _ _ _ _ (cC HR0_0.out HB.out) HC0_0.out A9.out).mono ?_); rintro e wy1 ⟨rfl, hb⟩; replace BKz1 := aB BKz1 hb; replace BKz2 := aB BKz2 hb; replace HB := aS HB hb; clear hb; obtain ⟨hczy6, hczy7, hczy8, hczy9, hczy10, hfzy6, hfzy7, hfzy8, hfzy9, hfzy10⟩ := cZ5 BKz1.out; refine Stop.out ?_))
    refine ⟨?_⟩
    by_cases c15 : t104 = true
    case neg =>
      replace c15 := Bool.eq_false_iff.mpr c15
      subst c15
      rw [if_neg nft] at H
      have H' := aM H
      clear H
      go_wp2_with (first | (go_at_call 102; (with_reducible refine (impl_from.calls _ _ _ _ _ A14.out).mono ?_); rintro e w' ⟨rfl, ⟨nd, rfl⟩⟩))
      go_meet
      case rel => exact ⟨_, (true), rS, H', ⟨by first | omega | exact Nat.le_refl _⟩, ⟨(bX BKz1.out)⟩, ⟨(bX BKz2.out)⟩, ⟨(hX HB.out)⟩⟩
    subst c15
    rw [if_pos rfl] at H
    go_wp2_with (first | (go_at_call 102; (with_reducible refine (impl_from.calls _ _ _ _ _ A14.out).mono ?_); rintro e w' ⟨rfl, ⟨nd, rfl⟩⟩; refine Stop.out ?_))
    refine ⟨?_⟩
    by_cases c16 : a0_2 = true
    case neg =>
      replace c16 := Bool.eq_false_iff.mpr c16
      subst c16
      rw [if_neg nft] at H
      by_cases c31 : (l0_3.length : Int) > 12
      · rw [if_pos c31] at H
        have c31b0 := decide_eq_true c31
        have c31b1 : decide (12 < l0_3.length) = true := decide_eq_true (by omega)
        clear c31
        have H' := aM H
        clear H
        go_wp2
        go_meet
        case rel => exact ⟨_, (true), rS, H', ⟨by first | omega | exact Nat.le_refl _⟩, ⟨(bX BKz1.out)⟩, ⟨(bX BKz2.out)⟩, ⟨(hX HB.out)⟩⟩
      rw [if_neg c31] at H
      have c31b0 := decide_eq_false c31
      have c31b1 : decide (12 < l0_3.length) = false := decide_eq_false (by omega)
      clear c31
      have H' := aM H
      clear H
      go_wp2
      go_meet
      case rel => exact ⟨_, (decide ((l0_4.length : Int) > 2)), rS, H', ⟨by first | omega | exact Nat.le_refl _⟩, ⟨(bX BKz1.out)⟩, ⟨(bX BKz2.out)⟩, ⟨(hX HB.out)⟩⟩
    subst c16
    rw [if_pos rfl] at H
    by_cases c17 : a0_1 = (l0_0.length : Int)
    · rw [if_pos c17] at H
      obtain ⟨c17b0, c17b1⟩ := eqT c17
      clear c17
      have H' := aM H
      clear H
      go_wp2
      go_meet
      case rel => exact ⟨_, (true), rS, H', ⟨by first | omega | exact Nat.le_refl _⟩, ⟨(bX BKz1.out)⟩, ⟨(bX BKz2.out)⟩, ⟨(hX HB.out)⟩⟩
    rw [if_neg c17] at H
    obtain ⟨c17b0, c17b1⟩ := eqF c17
    by_cases c22 : (l0_3.length : Int) > 12
    · rw [if_pos c22] at H
      have c22b0 := decide_eq_true c22
      have c22b1 : decide (12 < l0_3.length) = true := decide_eq_true (by omega)
      clear c22
      have H' := aM H
      clear H
      go_wp2
      go_meet
      case rel => exact ⟨_, (true), rS, H', ⟨by first | omega | exact Nat.le_refl _⟩, ⟨(bX BKz1.out)⟩, ⟨(bX BKz2.out)⟩, ⟨(hX HB.out)⟩⟩
    rw [if_neg c22] at H
    have c22b0 := decide_eq_false c22
    have c22b1 : decide (12 < l0_3.length) = false := decide_eq_false (by omega)
    clear c22
    have H' := aM H
    clear H
    go_wp2
    go_meet
    case rel => exact ⟨_, (decide ((l0_4.length : Int) > 2)), rS, H', ⟨by first | omega | exact Nat.le_refl _⟩, ⟨(bX BKz1.out)⟩, ⟨(bX BKz2.out)⟩, ⟨(hX HB.out)⟩⟩
  case rest =>
    clear HC3
    try clear p2
    obtain ⟨kq, x46_2, rfl, HA, HJy1, BKz1, BKz2, HB⟩ := hcut
    cases kq with
    | zero => exact absurd HA.out (by simp [impl_ThreadOk.j0])
    | succ kj2 =>
      have H := HA.out
      clear HA
      simp only [impl_ThreadOk.j0] at H
      by_cases c44 : x46_2 = true
      · subst c44
        rw [if_pos rfl] at H
        obtain rfl := sI H
        go_wp2
        go_ret
        exact ⟨rE, (hX HB.out)⟩
      replace c44 := Bool.eq_false_iff.mpr c44
      subst c44
      rw [if_neg nft] at H
      have HC45 := aM H
      clear H
      go_upto_region 3 with (fail)
      go_cut [59] (fun vx1 wc => ∃ (kq : Nat) (x59_44 : Bool), vx1 = .bool x59_44 ∧ Aside0 (impl_ThreadOk.j1 kq x59_44 l0_0 a0_1 a0_2 l0_3 l0_4 a1 = some r) ∧ Aside0 (kq ≤ kj2) ∧ Aside0 (wc.heap[gbz1]? = some (.cells #[(.slice A0_0 l0_0.length c0_0), .int .i64 a0_1, .bool a0_2, (.slice A0_3 l0_3.length c0_3), (.slice A0_4 l0_4.length c0_4)] 97 (0, 0))) ∧ Aside0 (wc.heap[gbz2]? = some (.cells #[.int .i64 a1] 3 (0, 0))) ∧ Aside0 (Below w.heap.size w wc))
      case first =>
        have H := HC45.out
        clear HC45
        by_cases c46 : a0_2 = true
        · subst c46
          rw [if_pos rfl] at H
          have H' := aM H
          clear H
          have hnbw1 := NBz1.out
          have hncw1 := NBz2.out
          obtain ⟨hczw1, hczw2, hczw3, hczw4, hczw5, hfzw1, hfzw2, hfzw3, hfzw4, hfzw5⟩ := cZ5 BKz1.out
          go_wp2
          go_meet
          case rel => exact ⟨_, (false), rS, H', ⟨by have := HJy1.out; first | omega | exact Nat.le_refl _⟩, ⟨(bX BKz1.out)⟩, ⟨(bX BKz2.out)⟩, ⟨(hX HB.out)⟩⟩
        replace c46 := Bool.eq_false_iff.mpr c46
        subst c46
        rw [if_neg nft] at H
        have H' := aM H
        clear H
        have hnbw1 := NBz1.out
        have hncw1 := NBz2.out
        obtain ⟨hczw1, hczw2, hczw3, hczw4, hczw5, hfzw1, hfzw2, hfzw3, hfzw4, hfzw5⟩ := cZ5 BKz1.out
        go_wp2
        go_meet
        case rel => exact ⟨_, (decide ((wrap64 ((l0_3.length : Int) + (l0_4.length : Int))) > 0)), rS, H', ⟨by have := HJy1.out; first | omega | exact Nat.le_refl _⟩, ⟨(bX BKz1.out)⟩, ⟨(bX BKz2.out)⟩, ⟨(hX HB.out)⟩⟩
      case rest =>
        clear HC45
        try clear p2
        try clear p6
        try clear c44
        obtain ⟨kq, x59_44, rfl, HA, HJw1, BKz1, BKz2, HB⟩ := hcut
        cases kq with
        | zero => exact absurd HA.out (by simp [impl_ThreadOk.j1])
        | succ kj44 =>
          have H := HA.out
          clear HA
          simp only [impl_ThreadOk.j1] at H
          by_cases c51 : x59_44 = true
          · subst c51
            rw [if_pos rfl] at H
            obtain rfl := sI H
            go_wp2
            go_ret
            exact ⟨rE, (hX HB.out)⟩
          replace c51 := Bool.eq_false_iff.mpr c51
          subst c51
          rw [if_neg nft] at H
          replace H := bE H; obtain ⟨t105, A52, H⟩ := H
          by_cases c53 : t105 = true
          · subst c53
            rw [if_pos rfl] at H
            obtain rfl := sI H
            have hnbv1 := NBz1.out
            have hncv1 := NBz2.out
            obtain ⟨hczv1, hczv2, hczv3, hczv4, hczv5, hfzv1, hfzv2, hfzv3, hfzv4, hfzv5⟩ := cZ5 BKz1.out
            go_wp2_with (first | (refine goesM 180 62 Tryz.func180 #[.slice A0_3 l0_3.length c0_3, .func (.func 181) #[] #[]] ?_; refine (impl_Pair_180_181.calls _ _ _ _ _ _ (cC HR0_3.out HB.out) HC0_3.out A52.out).mono ?_; rintro e wv1 ⟨rfl, hb⟩; refine ⟨_, rfl, ?_⟩; replace BKz1 := aB BKz1 hb; replace BKz2 := aB BKz2 hb; replace HB := aS HB hb; clear hb))
            go_ret
            exact ⟨rE, (hX HB.out)⟩
          replace c53 := Bool.eq_false_iff.mpr c53
          subst c53
          rw [if_neg nft] at H
          replace H := bE H; obtain ⟨t106, A57, H⟩ := H
          obtain rfl := sI H
          have hnbv1 := NBz1.out
          have hncv1 := NBz2.out
          obtain ⟨hczv1, hczv2, hczv3, hczv4, hczv5, hfzv1, hfzv2, hfzv3, hfzv4, hfzv5⟩ := cZ5 BKz1.out
          go_wp2_with (first | (refine goesM 180 62 Tryz.func180 #[.slice A0_3 l0_3.length c0_3, .func (.func 181) #[] #[]] ?_; refine (impl_Pair_180_181.calls _ _ _ _ _ _ (cC HR0_3.out HB.out) HC0_3.out A52.out).mono ?_; rintro e wv1 ⟨rfl, hb⟩; refine ⟨_, rfl, ?_⟩; replace BKz1 := aB BKz1 hb; replace BKz2 := aB BKz2 hb; replace HB := aS HB hb; clear hb; obtain ⟨hczv6, hczv7, hczv8, hczv9, hczv10, hfzv6, hfzv7, hfzv8, hfzv9, hfzv10⟩ := cZ5 BKz1.out) | (refine goesM 184 66 Tryz.func184 #[.slice A0_4 l0_4.length c0_4, .func (.func 185) #[] #[.pointer (some ⟨gbz2, 0, none⟩)]] ?_; refine (impl_Help_184_185.calls kj44 _ _ l0_4 gbz2 a1 t106 _ (cC HR0_4.out HB.out) HC0_4.out (by exact (bX BKz2.out)) A57.out).mono ?_; rintro e wv2 ⟨rfl, hb⟩; refine ⟨_, rfl, ?_⟩; replace BKz1 := aB BKz1 hb; replace BKz2 := aB BKz2 hb; replace HB := aS HB hb; clear hb))
          go_ret
          exact ⟨rE, (hX HB.out)⟩
end Go.Proofs.YtmljebgideecjaaGreat.P2
namespace Go.Proofs.YtmljebgideecjaaGreat.P2
open Go.Proofs.YtmljebgideecjaaGreatZ Go.RowKit Go.Proofs.YtmljebgideecjaaGreatW.PrintWords Go.Proofs.YtmljebgideecjaaGreatW.PrintLast Go.Proofs.YtmljebgideecjaaGreatW.PrintMore
attribute [local go_sem] max2_int min2_int max_two min_two max_three min_three max_four min_four   -- for this text's walks alone
attribute [local go_sem high] eqA69
def impl_callsOk.l0 : Nat → Int → Int → Int → Int → List (S73) → Int → Int → List (S140) → List (S162) → List (S97) → Int → List (S73) → List Int → List Int → Int → List (S69) → Int → Bool → List (S172) → List (S174) → Option (Bool)
  | 0, _, _, _, _, _, _, _, _, _, _, _, _, _, _, _, _, _, _, _, _ => none
  | k + 1, x1, x6, x7, x8, x17, x18, x19, x102000, x102001, x102002, x102003, x102004, x102005, x102006, x102007, x104000, x104001, x104002, x104003, x104004 => if x19 < x18 then (if 0 ≤ x19 then (if x19 < (x17.length : Int) then (if ((rd_T73 x17 x19).f0) = x1 then (if ((rd_T73 x17 x19).f4) ≥ 0 then (impl_callsOk.l0 k x1 x19 (wrap64 (x7 + 1)) x8 x17 x18 (wrap64 (x19 + 1)) x102000 x102001 x102002 x102003 x102004 x102005 x102006 x102007 x104000 x104001 x104002 x104003 x104004) else (impl_callsOk.l0 k x1 x19 x7 (wrap64 (x8 + 1)) x17 x18 (wrap64 (x19 + 1)) x102000 x102001 x102002 x102003 x102004 x102005 x102006 x102007 x104000 x104001 x104002 x104003 x104004)) else (impl_callsOk.l0 k x1 x6 x7 x8 x17 x18 (wrap64 (x19 + 1)) x102000 x102001 x102002 x102003 x102004 x102005 x102006 x102007 x104000 x104001 x104002 x104003 x104004)) else (none)) else (none)) else (if x7 = x104001 then (if x104002 = true then (if x6 ≥ 0 then (if x8 = 1 then (if 0 ≤ x6 then (if x6 < (x102004.length : Int) then (if ((rd_T73 x102004 x6).f4) = (-1) then (if 0 ≤ x104001 then (if x104001 < (x104000.length : Int) then (some (((rd_T73 x102004 x6).f1.f0) == ((rd_T69 x104000 x104001).f0) && (((rd_T73 x102004 x6).f1.f1) == ((rd_T69 x104000 x104001).f1) && (((rd_T73 x102004 x6).f1.f2) == ((rd_T69 x104000 x104001).f2))))) else (none)) else (none)) else (some false)) else (none)) else (none)) else (some false)) else (some false)) else (some (x8 == 0))) else (some false))
def impl_callsOk.f (k : Nat) (l0_0 : List (S140)) (l0_1 : List (S162)) (l0_2 : List (S97)) (a0_3 : Int) (l0_4 : List (S73)) (l0_5 : List Int) (l0_6 : List Int) (a0_7 : Int) (a1 : Int) : Option (Bool) := if 0 ≤ a1 then (if a1 < (l0_2.length : Int) then (impl_callsOk.l0 k a1 (-1) 0 0 l0_4 (l0_4.length : Int) 0 l0_0 l0_1 l0_2 a0_3 l0_4 l0_5 l0_6 a0_7 ((rd_T97 l0_2 a1).f0) ((rd_T97 l0_2 a1).f1) ((rd_T97 l0_2 a1).f2) ((rd_T97 l0_2 a1).f3) ((rd_T97 l0_2 a1).f4)) else (none)) else (none)
set_option maxHeartbeats 8000000 in
set_option maxRecDepth 100000 in
theorem impl_callsOk.calls (k : Nat) (A0_0 : Option Addr) (c0_0 : Nat) (l0_0 : List (S140)) (A0_1 : Option Addr) (c0_1 : Nat) (l0_1 : List (S162)) (A0_2 : Option Addr) (c0_2 : Nat) (l0_2 : List (S97)) (a0_3 : Int) (A0_4 : Option Addr) (c0_4 : Nat) (l0_4 : List (S73)) (A0_5 : Option Addr) (c0_5 : Nat) (l0_5 : List Int) (A0_6 : Option Addr) (c0_6 : Nat) (l0_6 : List Int) (a0_7 : Int) (a1 : Int) (r : Bool) (w : World) (hr0_0 : Kd.C k140 w A0_0 l0_0.length l0_0) (hc0_0 : l0_0.length ≤ c0_0) (hr0_1 : Kd.C k162 w A0_1 l0_1.length l0_1) (hc0_1 : l0_1.length ≤ c0_1) (hr0_2 : Kd.C k97 w A0_2 l0_2.length l0_2) (hc0_2 : l0_2.length ≤ c0_2) (hr0_4 : Kd.C k73 w A0_4 l0_4.length l0_4) (hc0_4 : l0_4.length ≤ c0_4) (hr0_5 : Kd.C (Kd.int .i64) w A0_5 l0_5.length l0_5) (hc0_5 : l0_5.length ≤ c0_5) (hr0_6 : Kd.C (Kd.int .i64) w A0_6 l0_6.length l0_6) (hc0_6 : l0_6.length ≤ c0_6) (h : impl_callsOk.f k l0_0 l0_1 l0_2 a0_3 l0_4 l0_5 l0_6 a0_7 a1 = some r) :
    Calls Tryz.prog 107 #[.agg #[.slice A0_0 l0_0.length c0_0, .slice A0_1 l0_1.length c0_1, .slice A0_2 l0_2.length c0_2, .int .i64 a0_3, .slice A0_4 l0_4.length c0_4, .slice A0_5 l0_5.length c0_5, .slice A0_6 l0_6.length c0_6, .int .i64 a0_7], .int .i64 a1] w fun e w' => e = .returned (.bool r) ∧ Below w.heap.size w w' := by
  have hu43 := Tryz.underlying43
  have hu97 := Tryz.underlying97
  have hu73 := Tryz.underlying73
  have hu69 := Tryz.underlying69
  have HR0_0 := aM hr0_0
  have HC0_0 := aM hc0_0
  clear hr0_0 hc0_0
  have HR0_1 := aM hr0_1
  have HC0_1 := aM hc0_1
  clear hr0_1 hc0_1
  have HR0_2 := aM hr0_2
  have HC0_2 := aM hc0_2
  clear hr0_2 hc0_2
  have HR0_4 := aM hr0_4
  have HC0_4 := aM hc0_4
  clear hr0_4 hc0_4
  have HR0_5 := aM hr0_5
  have HC0_5 := aM hc0_5
  clear hr0_5 hc0_5
  have HR0_6 := aM hr0_6
  have HC0_6 := aM hc0_6
  clear hr0_6 hc0_6
  have HB := aM (Below.refl w.heap.size w)
  have H := h
  unfold impl_callsOk.f at H
  clear h
  replace H := ifP H; obtain ⟨c3, H⟩ := H
  have c3b0 := decide_eq_true c3
  clear c3
  replace H := ifP H; obtain ⟨c4, H⟩ := H
  have c4b0 := decide_eq_true c4
  clear c4
  have H' := aM H
  clear H
  go_enter Tryz.func107, Tryz.ntmps107
  go_wp2_with (first | (refine boxE 2 #[.slice A0_0 l0_0.length c0_0, .slice A0_1 l0_1.length c0_1, .slice A0_2 l0_2.length c0_2, .int .i64 a0_3, .slice A0_4 l0_4.length c0_4, .slice A0_5 l0_5.length c0_5, .slice A0_6 l0_6.length c0_6, .int .i64 a0_7] 43 ?_; intro gbz1 hg wz1 hbox hb; have BKz1 := aM (hbox); have GWz1 := aG hg HB; have GEz1 := aG hg HB; replace HB := aS HB hb; clear hb hbox hg; obtain ⟨hczz1, hczz2, hczz3, hczz4, hczz5, hczz6, hczz7, hczz8, hfzz1, hfzz2, hfzz3, hfzz4, hfzz5, hfzz6, hfzz7, hfzz8⟩ := cZ8 BKz1.out; have pz1 : 0 ≤ (a1 : Int) := odA; have qz1 : a1 < (l0_2.length : Int) := odA; obtain ⟨adz1, Az1, cz1, Az2, cz2, Az3, cz3, ez1, hxz1, hxz2, hxz3, hxz4, hxz5, hlz1, hiz1, hlz2, hiz2, hlz3, hiz3⟩ := at_T97 HR0_2.out a1 pz1 qz1; cases ez1; replace hxz1 := bc HB.out hxz1; replace hxz2 := bc HB.out hxz2; replace hxz3 := bc HB.out hxz3; replace hxz4 := bc HB.out hxz4; replace hxz5 := bc HB.out hxz5; have HRz1 := aM hiz1; have HCz1 := aM hlz1; clear hiz1 hlz1; have HRz2 := aM hiz2; have HCz2 := aM hlz2; clear hiz2 hlz2; have HRz3 := aM hiz3; have HCz3 := aM hlz3; clear hiz3 hlz3; replace pz1 := eq_true pz1; replace qz1 := eq_true qz1) | (refine boxE 5 #[.slice none 0 0, .int .i64 0, .bool false, .slice none 0 0, .slice none 0 0] 97 ?_; intro gbz2 hg wz2 hbox hb; have BKz2 := aM (hbox); have GWz2 := aG hg HB; have GEz2 := aG hg HB; have NBz1 := aL hg BKz1; have NBz2 := aR hg BKz1; replace BKz1 := aB BKz1 hb; replace HB := aS HB hb; clear hb hbox hg; have hnbz1 := NBz2.out; have hncz1 := NBz1.out; obtain ⟨hczz9, hczz10, hczz11, hczz12, hczz13, hfzz9, hfzz10, hfzz11, hfzz12, hfzz13⟩ := cZ5 BKz2.out; obtain ⟨hczz14, hczz15, hczz16, hczz17, hczz18, hczz19, hczz20, hczz21, hfzz14, hfzz15, hfzz16, hfzz17, hfzz18, hfzz19, hfzz20, hfzz21⟩ := cZ8 BKz1.out))
  repeat (go_quiet (fail); try go_wp2_with (first | ((with_reducible refine gate_dst (N := 2) rfl ?_); refine boxF 2 #[.slice A0_0 l0_0.length c0_0, .slice A0_1 l0_1.length c0_1, .slice A0_2 l0_2.length c0_2, .int .i64 a0_3, .slice A0_4 l0_4.length c0_4, .slice A0_5 l0_5.length c0_5, .slice A0_6 l0_6.length c0_6, .int .i64 a0_7] 43 ?_; intro gbz1 hg wz1 hbox hb; have BKz1 := aM (hbox); have GWz1 := aG hg HB; have GEz1 := aG hg HB; replace HB := aS HB hb; clear hb hbox hg; obtain ⟨hczz1, hczz2, hczz3, hczz4, hczz5, hczz6, hczz7, hczz8, hfzz1, hfzz2, hfzz3, hfzz4, hfzz5, hfzz6, hfzz7, hfzz8⟩ := cZ8 BKz1.out; have pz1 : 0 ≤ (a1 : Int) := odA; have qz1 : a1 < (l0_2.length : Int) := odA; obtain ⟨adz1, Az1, cz1, Az2, cz2, Az3, cz3, ez1, hxz1, hxz2, hxz3, hxz4, hxz5, hlz1, hiz1, hlz2, hiz2, hlz3, hiz3⟩ := at_T97 HR0_2.out a1 pz1 qz1; cases ez1; replace hxz1 := bc HB.out hxz1; replace hxz2 := bc HB.out hxz2; replace hxz3 := bc HB.out hxz3; replace hxz4 := bc HB.out hxz4; replace hxz5 := bc HB.out hxz5; have HRz1 := aM hiz1; have HCz1 := aM hlz1; clear hiz1 hlz1; have HRz2 := aM hiz2; have HCz2 := aM hlz2; clear hiz2 hlz2; have HRz3 := aM hiz3; have HCz3 := aM hlz3; clear hiz3 hlz3; replace pz1 := eq_true pz1; replace qz1 := eq_true qz1) | ((with_reducible refine gate_dst (N := 5) rfl ?_); refine boxF 5 #[.slice none 0 0, .int .i64 0, .bool false, .slice none 0 0, .slice none 0 0] 97 ?_; intro gbz2 hg wz2 hbox hb; have BKz2 := aM (hbox); have GWz2 := aG hg HB; have GEz2 := aG hg HB; have NBz1 := aL hg BKz1; have NBz2 := aR hg BKz1; replace BKz1 := aB BKz1 hb; replace HB := aS HB hb; clear hb hbox hg; have hnbz1 := NBz2.out; have hncz1 := NBz1.out; obtain ⟨hczz9, hczz10, hczz11, hczz12, hczz13, hfzz9, hfzz10, hfzz11, hfzz12, hfzz13⟩ := cZ5 BKz2.out; obtain ⟨hczz14, hczz15, hczz16, hczz17, hczz18, hczz19, hczz20, hczz21, hfzz14, hfzz15, hfzz16, hfzz17, hfzz18, hfzz19, hfzz20, hfzz21⟩ := cZ8 BKz1.out)))
  go_loopg [6, 7, 8, 19] k (fun kq v6 v7 v8 v19 w' => ∃ (x6_1 : Int) (x7_1 : Int) (x8_1 : Int) (x19_1 : Int), v6 = .int .i64 x6_1 ∧ v7 = .int .i64 x7_1 ∧ v8 = .int .i64 x8_1 ∧ v19 = .int .i64 x19_1 ∧ Aside0 (impl_callsOk.l0 kq a1 x6_1 x7_1 x8_1 l0_4 (l0_4.length : Int) x19_1 l0_0 l0_1 l0_2 a0_3 l0_4 l0_5 l0_6 a0_7 ((rd_T97 l0_2 a1).f0) ((rd_T97 l0_2 a1).f1) ((rd_T97 l0_2 a1).f2) ((rd_T97 l0_2 a1).f3) ((rd_T97 l0_2 a1).f4) = some r) ∧ Aside0 (kq ≤ k) ∧ Aside0 (w'.heap[gbz1]? = some (.cells #[(.slice A0_0 l0_0.length c0_0), (.slice A0_1 l0_1.length c0_1), (.slice (some adz1) l0_2.length c0_2), .int .i64 a0_3, (.slice A0_4 l0_4.length c0_4), (.slice A0_5 l0_5.length c0_5), (.slice A0_6 l0_6.length c0_6), .int .i64 a0_7] 43 (0, 0))) ∧ Aside0 (w'.heap[gbz2]? = some (.cells #[(.slice Az1 ((rd_T97 l0_2 a1).f0).length cz1), .int .i64 ((rd_T97 l0_2 a1).f1), .bool ((rd_T97 l0_2 a1).f2), (.slice Az2 ((rd_T97 l0_2 a1).f3).length cz2), (.slice Az3 ((rd_T97 l0_2 a1).f4).length cz3)] 97 (0, 0))) ∧ Aside0 (Below w.heap.size w w'))
  case atStart => exact ⟨((-1)), (0), (0), (0), rS, rS, rS, rS, H', ⟨Nat.le_refl _⟩, ⟨(bF BKz1.out)⟩, ⟨(bP BKz2.out)⟩, ⟨(hX HB.out)⟩⟩
  case round =>
    clear H'
    try clear p1
    try clear q1
    try clear hx1
    try clear p2
    try clear c3
    try clear c3b0
    try clear c4
    try clear c4b0
    try clear p10
    try clear q10
    try clear hx10
    try clear hczz14 hczz15 hczz16 hczz17 hczz18 hczz19 hczz20 hczz21 hfzz14 hfzz15 hfzz16 hfzz17 hfzz18 hfzz19 hfzz20 hfzz21
    try clear hczz1 hczz2 hczz3 hczz4 hczz5 hczz6 hczz7 hczz8 hfzz1 hfzz2 hfzz3 hfzz4 hfzz5 hfzz6 hfzz7 hfzz8
    try clear hczz9 hczz10 hczz11 hczz12 hczz13 hfzz9 hfzz10 hfzz11 hfzz12 hfzz13
    try clear hxz1
    try clear hxz2
    try clear hxz3
    try clear hxz4
    try clear hxz5
    try clear pz1
    try clear qz1
    obtain ⟨x6_1, x7_1, x8_1, x19_1, rfl, rfl, rfl, rfl, HA, HKy1, BKz1, BKz2, HB⟩ := hrel
    cases gk with
    | zero => exact absurd HA.out (by simp [impl_callsOk.l0])
    | succ k1 =>
      have H := HA.out
      clear HA
      simp only [impl_callsOk.l0] at H
      by_cases c11 : x19_1 < (l0_4.length : Int)
      · rw [if_pos c11] at H
        have c11b0 := decide_eq_true c11
        clear c11
        replace H := ifP H; obtain ⟨c12, H⟩ := H
        have c12b0 := decide_eq_true c12
        clear c12
        replace H := ifP H; obtain ⟨c13, H⟩ := H
        have c13b0 := decide_eq_true c13
        clear c13
        have px1 : 0 ≤ (x19_1 : Int) := odA
        have qx1 : x19_1 < (l0_4.length : Int) := odA
        obtain ⟨adx1, Ax1, cx1, ex1, hxx1, hxx2, hxx3, hxx4, hxx5, hxx6, hxx7, hxx8, hxx9, hlx1, hix1⟩ := at_T73b HR0_4.out HB.out x19_1 px1 qx1
        cases ex1
        have HRx1 := aM hix1
        have HCx1 := aM hlx1
        clear hix1 hlx1
        replace px1 := eq_true px1
        replace qx1 := eq_true qx1
        go_wp2_with (first | (refine boxE 10 #[.int .i64 0, .int .i64 0, .int .i64 0, .int .i64 0, .int .i64 0, .int .i64 0, .int .i64 0, .int .i64 0, .slice none 0 0] 73 ?_; intro gbx1 hg wx1 hbox hb; have BKx1 := aM (hbox); have GWx1 := aG hg HB; have GEx1 := aG hg HB; have NBx1 := aL hg BKz1; have NBx2 := aR hg BKz1; have NBx3 := aL hg BKz2; have NBx4 := aR hg BKz2; replace BKz1 := aB BKz1 hb; replace BKz2 := aB BKz2 hb; replace HB := aS HB hb; clear hb hbox hg; have hnbx1 := NBx2.out; have hncx1 := NBx1.out; have hnbx2 := NBx4.out; have hncx2 := NBx3.out; obtain ⟨hczx1, hczx2, hczx3, hczx4, hczx5, hczx6, hczx7, hczx8, hczx9, hfzx1, hfzx2, hfzx3, hfzx4, hfzx5, hfzx6, hfzx7, hfzx8, hfzx9⟩ := cZ9 BKx1.out; refine Stop.out ?_))
        refine ⟨?_⟩
        by_cases c14 : ((rd_T73 l0_4 x19_1).f0) = a1
        case neg =>
          rw [if_neg c14] at H
          obtain ⟨c14b0, c14b1⟩ := eqF c14
          have H' := aM H
          clear H
          go_wp2
          repeat (go_quiet (fail); try go_wp2_with (first | ((with_reducible refine gate_dst (N := 10) rfl ?_); refine boxF 10 #[.int .i64 0, .int .i64 0, .int .i64 0, .int .i64 0, .int .i64 0, .int .i64 0, .int .i64 0, .int .i64 0, .slice none 0 0] 73 ?_; intro gbx1 hg wx1 hbox hb; have BKx1 := aM (hbox); have GWx1 := aG hg HB; have GEx1 := aG hg HB; have NBx1 := aL hg BKz1; have NBx2 := aR hg BKz1; have NBx3 := aL hg BKz2; have NBx4 := aR hg BKz2; replace BKz1 := aB BKz1 hb; replace BKz2 := aB BKz2 hb; replace HB := aS HB hb; clear hb hbox hg; have hnbx1 := NBx2.out; have hncx1 := NBx1.out; have hnbx2 := NBx4.out; have hncx2 := NBx3.out; obtain ⟨hczx1, hczx2, hczx3, hczx4, hczx5, hczx6, hczx7, hczx8, hczx9, hfzx1, hfzx2, hfzx3, hfzx4, hfzx5, hfzx6, hfzx7, hfzx8, hfzx9⟩ := cZ9 BKx1.out)))
          go_roundg k1
          case measure => have := HKy1.out; omega
          case rel => exact ⟨(x6_1), (x7_1), (x8_1), (wrap64 (x19_1 + 1)), rS, rS, rS, rS, H', ⟨by have := HKy1.out; omega⟩, ⟨(bF BKz1.out)⟩, ⟨(bF BKz2.out)⟩, ⟨(hX HB.out)⟩⟩
        rw [if_pos c14] at H
        obtain ⟨c14b0, c14b1⟩ := eqT c14
        clear c14
        by_cases c15 : ((rd_T73 l0_4 x19_1).f4) ≥ 0
        · rw [if_pos c15] at H
          have c15b0 := decide_eq_true c15
          clear c15
          have H' := aM H
          clear H
          go_wp2
          repeat (go_quiet (fail); try go_wp2_with (first | ((with_reducible refine gate_dst (N := 10) rfl ?_); refine boxF 10 #[.int .i64 0, .int .i64 0, .int .i64 0, .int .i64 0, .int .i64 0, .int .i64 0, .int .i64 0, .int .i64 0, .slice none 0 0] 73 ?_; intro gbx1 hg wx1 hbox hb; have BKx1 := aM (hbox); have GWx1 := aG hg HB; have GEx1 := aG hg HB; have NBx1 := aL hg BKz1; have NBx2 := aR hg BKz1; have NBx3 := aL hg BKz2; have NBx4 := aR hg BKz2; replace BKz1 := aB BKz1 hb; replace BKz2 := aB BKz2 hb; replace HB := aS HB hb; clear hb hbox hg; have hnbx1 := NBx2.out; have hncx1 := NBx1.out; have hnbx2 := NBx4.out; have hncx2 := NBx3.out; obtain ⟨hczx1, hczx2, hczx3, hczx4, hczx5, hczx6, hczx7, hczx8, hczx9, hfzx1, hfzx2, hfzx3, hfzx4, hfzx5, hfzx6, hfzx7, hfzx8, hfzx9⟩ := cZ9 BKx1.out)))
          go_roundg k1
          case measure => have := HKy1.out; omega
          case rel => exact ⟨(x19_1), (wrap64 (x7_1 + 1)), (x8_1), (wrap64 (x19_1 + 1)), rS, rS, rS, rS, H', ⟨by have := HKy1.out; omega⟩, ⟨(bF BKz1.out)⟩, ⟨(bF BKz2.out)⟩, ⟨(hX HB.out)⟩⟩
        rw [if_neg c15] at H
        have c15b0 := decide_eq_false c15
        clear c15
        have H' := aM H
        clear H
        go_wp2
        repeat (go_quiet (fail); try go_wp2_with (first | ((with_reducible refine gate_dst (N := 10) rfl ?_); refine boxF 10 #[.int .i64 0, .int .i64 0, .int .i64 0, .int .i64 0, .int .i64 0, .int .i64 0, .int .i64 0, .int .i64 0, .slice none 0 0] 73 ?_; intro gbx1 hg wx1 hbox hb; have BKx1 := aM (hbox); have GWx1 := aG hg HB; have GEx1 := aG hg HB; have NBx1 := aL hg BKz1; have NBx2 := aR hg BKz1; have NBx3 := aL hg BKz2; have NBx4 := aR hg BKz2; replace BKz1 := aB BKz1 hb; replace BKz2 := aB BKz2 hb; replace HB := aS HB hb; clear hb hbox hg; have hnbx1 := NBx2.out; have hncx1 := NBx1.out; have hnbx2 := NBx4.out; have hncx2 := NBx3.out; obtain ⟨hczx1, hczx2, hczx3, hczx4, hczx5, hczx6, hczx7, hczx8, hczx9, hfzx1, hfzx2, hfzx3, hfzx4, hfzx5, hfzx6, hfzx7, hfzx8, hfzx9⟩ := cZ9 BKx1.out)))
        go_roundg k1
        case measure => have := HKy1.out; omega
        case rel => exact ⟨(x19_1), (x7_1), (wrap64 (x8_1 + 1)), (wrap64 (x19_1 + 1)), rS, rS, rS, rS, H', ⟨by have := HKy1.out; omega⟩, ⟨(bF BKz1.out)⟩, ⟨(bF BKz2.out)⟩, ⟨(hX HB.out)⟩⟩
      rw [if_neg c11] at H
      have c11b0 := decide_eq_false c11
      clear c11
      by_cases c28 : x7_1 = ((rd_T97 l0_2 a1).f1)
      case neg =>
        rw [if_neg c28] at H
        obtain ⟨c28b0, c28b1⟩ := eqF c28
        obtain rfl := sI H
        have hnbx1 := NBz2.out
        have hncx1 := NBz1.out
        obtain ⟨hczx1, hczx2, hczx3, hczx4, hczx5, hfzx1, hfzx2, hfzx3, hfzx4, hfzx5⟩ := cZ5 BKz2.out
        go_wp2
        repeat (go_quiet (fail); try go_wp2)
        go_ret
        exact ⟨rE, (hX HB.out)⟩
      rw [if_pos c28] at H
      obtain ⟨c28b0, c28b1⟩ := eqT c28
      clear c28
      by_cases c29 : ((rd_T97 l0_2 a1).f2) = true
      case neg =>
        rw [if_neg c29] at H
        have c29b0 : ((rd_T97 l0_2 a1).f2) = false := by simpa using c29
        clear c29
        obtain rfl := sI H
        have hnbx1 := NBz2.out
        have hncx1 := NBz1.out
        obtain ⟨hczx1, hczx2, hczx3, hczx4, hczx5, hfzx1, hfzx2, hfzx3, hfzx4, hfzx5⟩ := cZ5 BKz2.out
        go_wp2
        repeat (go_quiet (fail); try go_wp2)
        go_ret
        exact ⟨rE, (hX HB.out)⟩
      rw [if_pos c29] at H
      have c29b0 : ((rd_T97 l0_2 a1).f2) = true := c29
      clear c29
      by_cases c30 : x6_1 ≥ 0
      case neg =>
        rw [if_neg c30] at H
        have c30b0 := decide_eq_false c30
        clear c30
        obtain rfl := sI H
        have hnbx1 := NBz2.out
        have hncx1 := NBz1.out
        obtain ⟨hczx1, hczx2, hczx3, hczx4, hczx5, hfzx1, hfzx2, hfzx3, hfzx4, hfzx5⟩ := cZ5 BKz2.out
        go_wp2
        repeat (go_quiet (fail); try go_wp2)
        go_ret
        exact ⟨rE, (hX HB.out)⟩
      rw [if_pos c30] at H
      have c30b0 := decide_eq_true c30
      clear c30
      by_cases c31 : x8_1 = 1
      case neg =>
        rw [if_neg c31] at H
        obtain ⟨c31b0, c31b1⟩ := eqF c31
        obtain rfl := sI H
        have hnbx1 := NBz2.out
        have hncx1 := NBz1.out
        obtain ⟨hczx1, hczx2, hczx3, hczx4, hczx5, hfzx1, hfzx2, hfzx3, hfzx4, hfzx5⟩ := cZ5 BKz2.out
        go_wp2
        repeat (go_quiet (fail); try go_wp2)
        go_ret
        exact ⟨rE, (hX HB.out)⟩
      rw [if_pos c31] at H
      obtain ⟨c31b0, c31b1⟩ := eqT c31
      clear c31
      replace H := ifP H; obtain ⟨c32, H⟩ := H
      have c32b0 := decide_eq_true c32
      clear c32
      replace H := ifP H; obtain ⟨c33, H⟩ := H
      have c33b0 := decide_eq_true c33
      clear c33
      by_cases c34 : ((rd_T73 l0_4 x6_1).f4) = (-1)
      case neg =>
        rw [if_neg c34] at H
        obtain ⟨c34b0, c34b1⟩ := eqF c34
        obtain rfl := sI H
        have hnbx1 := NBz2.out
        have hncx1 := NBz1.out
        obtain ⟨hczx1, hczx2, hczx3, hczx4, hczx5, hfzx1, hfzx2, hfzx3, hfzx4, hfzx5⟩ := cZ5 BKz2.out
        obtain ⟨hczx6, hczx7, hczx8, hczx9, hczx10, hczx11, hczx12, hczx13, hfzx6, hfzx7, hfzx8, hfzx9, hfzx10, hfzx11, hfzx12, hfzx13⟩ := cZ8 BKz1.out
        have px1 : 0 ≤ (x6_1 : Int) := odA
        have qx1 : x6_1 < (l0_4.length : Int) := odA
        obtain ⟨adx1, Ax1, cx1, ex1, hxx1, hxx2, hxx3, hxx4, hxx5, hxx6, hxx7, hxx8, hxx9, hlx1, hix1⟩ := at_T73b HR0_4.out HB.out x6_1 px1 qx1
        cases ex1
        have HRx1 := aM hix1
        have HCx1 := aM hlx1
        clear hix1 hlx1
        replace px1 := eq_true px1
        replace qx1 := eq_true qx1
        go_wp2
        repeat (go_quiet (fail); try go_wp2)
        go_ret
        exact ⟨rE, (hX HB.out)⟩
      rw [if_pos c34] at H
      obtain ⟨c34b0, c34b1⟩ := eqT c34
      clear c34
      replace H := ifP H; obtain ⟨c35, H⟩ := H
      have c35b0 := decide_eq_true c35
      clear c35
      replace H := ifP H; obtain ⟨c36, H⟩ := H
      have c36b0 := decide_eq_true c36
      clear c36
      obtain rfl := sI H
      have hnbx1 := NBz2.out
      have hncx1 := NBz1.out
      obtain ⟨hczx1, hczx2, hczx3, hczx4, hczx5, hfzx1, hfzx2, hfzx3, hfzx4, hfzx5⟩ := cZ5 BKz2.out
      obtain ⟨hczx6, hczx7, hczx8, hczx9, hczx10, hczx11, hczx12, hczx13, hfzx6, hfzx7, hfzx8, hfzx9, hfzx10, hfzx11, hfzx12, hfzx13⟩ := cZ8 BKz1.out
      have px1 : 0 ≤ (x6_1 : Int) := odA
      have qx1 : x6_1 < (l0_4.length : Int) := odA
      obtain ⟨adx1, Ax1, cx1, ex1, hxx1, hxx2, hxx3, hxx4, hxx5, hxx6, hxx7, hxx8, hxx9, hlx1, hix1⟩ := at_T73b HR0_4.out HB.out x6_1 px1 qx1
      cases ex1
      have HRx1 := aM hix1
      have HCx1 := aM hlx1
      clear hix1 hlx1
      replace px1 := eq_true px1
      replace qx1 := eq_true qx1
      have px2 : 0 ≤ (x6_1 : Int) := odA
      have qx2 : x6_1 < (l0_4.length : Int) := odA
      obtain ⟨adx2, Ax2, cx2, ex2, hxx10, hxx11, hxx12, hxx13, hxx14, hxx15, hxx16, hxx17, hxx18, hlx2, hix2⟩ := at_T73b HR0_4.out HB.out x6_1 px2 qx2
      obtain rfl : adx1 = adx2 := (by injection ex2)
      have HRx2 := aM hix2
      have HCx2 := aM hlx2
      clear hix2 hlx2
      replace px2 := eq_true px2
      replace qx2 := eq_true qx2
      have ea_ := Option.some.inj (hxx9.symm.trans hxx18)
      injection ea_ with ea_ en_ ec_
      subst ea_
      subst ec_
      clear en_
      have px3 : 0 ≤ (((rd_T97 l0_2 a1).f1) : Int) := odA
      have qx3 : ((rd_T97 l0_2 a1).f1) < (((rd_T97 l0_2 a1).f0).length : Int) := odA
      obtain ⟨adx3, ex3, hxx19, hxx20, hxx21⟩ := at_T69b HRz1.out HB.out ((rd_T97 l0_2 a1).f1) px3 qx3
      cases ex3
      replace px3 := eq_true px3
      replace qx3 := eq_true qx3
      go_wp2
      repeat (go_quiet (fail); try go_wp2)
      go_ret
      exact ⟨rE, (hX HB.out)⟩
end Go.Proofs.YtmljebgideecjaaGreat.P2
