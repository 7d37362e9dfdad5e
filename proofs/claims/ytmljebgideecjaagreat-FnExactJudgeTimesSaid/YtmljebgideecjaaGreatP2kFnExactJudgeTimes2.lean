/- A part of the proof of the law FnExactJudgeTimes: texts of this seat, merged (words, printed functions of the program, plain lemmas). Conditions: none of its own. -/
import Derived.Test.YtmljebgideecjaaGreatP2kFnExactJudgeTimes1
set_option linter.unusedSimpArgs false
set_option linter.unusedVariables false
namespace Go.Proofs.YtmljebgideecjaaGreat.P2
open Go.Proofs.YtmljebgideecjaaGreatZ Go.RowKit Go.Proofs.YtmljebgideecjaaGreatW.PrintWords Go.Proofs.YtmljebgideecjaaGreatW.PrintLast Go.Proofs.YtmljebgideecjaaGreatW.PrintMore
attribute [local go_sem] max2_int min2_int max_two min_two max_three min_three max_four min_four   -- for this text's walks alone
mutual
def spec_DescOk.j0 : Nat → Bool → Int → Int → List (S165) → Int → List Int → Option (Bool)
  | 0, _, _, _, _, _, _ => none
  | k + 1, x45, x102000, x102001, x102002, x102003, x102004 => if x45 = true then (some false) else (spec_DescOk.l0 k 0 x102000 x102001 x102002 x102003 x102004)
def spec_DescOk.l0 : Nat → Int → Int → Int → List (S165) → Int → List Int → Option (Bool)
  | 0, _, _, _, _, _, _ => none
  | k + 1, x3, x102000, x102001, x102002, x102003, x102004 => if x3 < (x102002.length : Int) then (if 0 ≤ x3 then ((spec_l1In.f ((rd_T165 x102002 x3).f0) 0 19).bind fun t106 => (if t106 = true then ((spec_l1In.f ((rd_T165 x102002 x3).f1) 0 1000).bind fun t107 => (if t107 = true then ((spec_l1In.f ((rd_T165 x102002 x3).f2) 0 1000).bind fun t108 => (if t108 = true then (if x3 > 0 then (if 0 ≤ (wrap64 (x3 - 1)) then (if (wrap64 (x3 - 1)) < (x102002.length : Int) then (if ((rd_T165 x102002 (wrap64 (x3 - 1))).f0) ≥ ((rd_T165 x102002 x3).f0) then (some false) else (spec_DescOk.l0 k (wrap64 (x3 + 1)) x102000 x102001 x102002 x102003 x102004)) else (none)) else (none)) else (spec_DescOk.l0 k (wrap64 (x3 + 1)) x102000 x102001 x102002 x102003 x102004)) else (some false))) else (some false))) else (some false))) else (none)) else (some true)
end
def spec_DescOk.f (k : Nat) (a0_0 : Int) (a0_1 : Int) (l0_2 : List (S165)) (a0_3 : Int) (l0_4 : List Int) : Option (Bool) := if a0_0 = 0 then (if a0_1 = 0 then (if (l0_2.length : Int) = 0 then (if a0_3 = 0 then (some ((l0_4.length : Int) == 0)) else (some false)) else (some false)) else (some false)) else ((spec_l1In.f a0_0 1 1000000).bind fun t102 => (if t102 = true then ((spec_l1In.f a0_1 1 3).bind fun t103 => (if t103 = true then (spec_DescOk.j0 k (decide ((l0_2.length : Int) > 20)) a0_0 a0_1 l0_2 a0_3 l0_4) else (spec_DescOk.j0 k true a0_0 a0_1 l0_2 a0_3 l0_4))) else (spec_DescOk.j0 k true a0_0 a0_1 l0_2 a0_3 l0_4)))
def spec_DescOk.T9 : Bool × List (List Nat × List Nat) := (true, [([], []), ([0], [0]), ([1], [1]), ([2], [2]), ([3, 2], [3]), ([4], [4]), ([5, 4], [4, 5]), ([6, 4, 4], [4, 6]), ([7, 4], [4, 7]), ([4, 8], [4, 8]), ([9, 7], [9]), ([10], [10]), ([11, 10], [10, 11]), ([12, 10, 10], [10, 12]), ([13, 10], [10, 13]), ([10, 14], [10, 14]), ([15, 13], [15]), ([16], [16]), ([17, 16], [16, 17]), ([18, 16, 16], [16, 18]), ([19], [19]), ([20, 19], [19, 20]), ([19], [19]), ([22, 19], [19, 22]), ([21, 23, 19], [19, 21, 23]), ([24, 19], [19, 24]), ([25, 19], [19, 25]), ([19], [19]), ([27, 19], [19, 27]), ([26, 28, 19], [19, 26, 28]), ([19, 29, 16], [16, 19, 29]), ([16, 30], [16, 30])])
def spec_DescOk.B9 : List Nat := [0, 1, 3, 7, 15, 31, 63, 127, 255, 511, 1023, 2047, 4095, 8191, 16383, 32767, 65535, 131071, 262143, 524287, 1048575, 2097151, 1048575, 5242879, 16777215, 33554431, 67108863, 1048575, 135266303, 536870911, 1073741823, 2147483647]
theorem spec_DescOk.tab9 : rtab .any (opsOf Tryz.f156 9) = spec_DescOk.T9 := by kernel_rfl
theorem spec_DescOk.bits9 : waitsOk spec_DescOk.T9.2 spec_DescOk.B9 = true := by kernel_rfl
set_option maxHeartbeats 8000000 in
set_option maxRecDepth 100000 in
theorem spec_DescOk.calls (k : Nat) (a0_0 : Int) (a0_1 : Int) (A0_2 : Option Addr) (c0_2 : Nat) (l0_2 : List (S165)) (a0_3 : Int) (A0_4 : Option Addr) (c0_4 : Nat) (l0_4 : List Int) (r : Bool) (w : World) (hr0_2 : Kd.C k165 w A0_2 l0_2.length l0_2) (hc0_2 : l0_2.length ≤ c0_2) (hr0_4 : Kd.C (Kd.int .i64) w A0_4 l0_4.length l0_4) (hc0_4 : l0_4.length ≤ c0_4) (h : spec_DescOk.f k a0_0 a0_1 l0_2 a0_3 l0_4 = some r) :
    Calls Tryz.prog 156 #[.agg #[.int .i64 a0_0, .int .i64 a0_1, .slice A0_2 l0_2.length c0_2, .int .i64 a0_3, .slice A0_4 l0_4.length c0_4]] w fun e w' => e = .returned (.bool r) ∧ Below w.heap.size w w' := by
  have hu162 := Tryz.underlying162
  have hu165 := Tryz.underlying165
  have HR0_2 := aM hr0_2
  have HC0_2 := aM hc0_2
  clear hr0_2 hc0_2
  have HR0_4 := aM hr0_4
  have HC0_4 := aM hc0_4
  clear hr0_4 hc0_4
  have HB := aM (Below.refl w.heap.size w)
  have H := h
  unfold spec_DescOk.f at H
  clear h
  go_enter Tryz.func156, Tryz.ntmps156
  go_wp2_with (first | ((with_reducible refine gate_dst (N := 1) rfl ?_); (try (refine gate_guard (by rfl) ?_; dsimp only)); refine boxF 1 #[.int .i64 a0_0, .int .i64 a0_1, .slice A0_2 l0_2.length c0_2, .int .i64 a0_3, .slice A0_4 l0_4.length c0_4] 162 ?_; intro gbz1 hg wz1 hbox hb; have BKz1 := aM (hbox); have GWz1 := aG hg HB; have GEz1 := aG hg HB; replace HB := aS HB hb; clear hb hbox hg; obtain ⟨hczz1, hczz2, hczz3, hczz4, hczz5, hfzz1, hfzz2, hfzz3, hfzz4, hfzz5⟩ := cZ5 BKz1.out; refine Stop.out ?_))
  refine ⟨?_⟩
  by_cases c2 : a0_0 = 0
  · rw [if_pos c2] at H
    obtain ⟨c2b0, c2b1⟩ := eqT c2
    clear c2
    by_cases c3 : a0_1 = 0
    case neg =>
      rw [if_neg c3] at H
      obtain ⟨c3b0, c3b1⟩ := eqF c3
      obtain rfl := sI H
      go_wp2
      go_ret
      exact ⟨rE, (hX HB.out)⟩
    rw [if_pos c3] at H
    obtain ⟨c3b0, c3b1⟩ := eqT c3
    clear c3
    by_cases c4 : (l0_2.length : Int) = 0
    case neg =>
      rw [if_neg c4] at H
      obtain ⟨c4b0, c4b1⟩ := eqF c4
      have c4b2 : ¬ (l0_2 = []) := fun h_ => c4 (by rw [h_]; rfl)
      obtain rfl := sI H
      go_wp2
      go_ret
      exact ⟨rE, (hX HB.out)⟩
    rw [if_pos c4] at H
    obtain ⟨c4b0, c4b1⟩ := eqT c4
    clear c4
    by_cases c5 : a0_3 = 0
    case neg =>
      rw [if_neg c5] at H
      obtain ⟨c5b0, c5b1⟩ := eqF c5
      obtain rfl := sI H
      go_wp2
      go_ret
      exact ⟨rE, (hX HB.out)⟩
    rw [if_pos c5] at H
    obtain ⟨c5b0, c5b1⟩ := eqT c5
    clear c5
    obtain rfl := sI H
    go_wp2
    go_ret
    exact ⟨rE, (hX HB.out)⟩
  rw [if_neg c2] at H
  obtain ⟨c2b0, c2b1⟩ := eqF c2
  have HC14 := aM H
  clear H
  go_upto_region 3 with (fail)
  (try simp only [Act.put, List.setIfInBounds_toArray, List.set_cons_zero, List.set_cons_succ])
  go_cut [45] (fun vz1 wc => ∃ (kq : Nat) (x45_13 : Bool), vz1 = .bool x45_13 ∧ Aside0 (spec_DescOk.j0 kq x45_13 a0_0 a0_1 l0_2 a0_3 l0_4 = some r) ∧ Aside0 (kq ≤ k) ∧ Aside0 (wc.heap[gbz1]? = some (.cells #[.int .i64 a0_0, .int .i64 a0_1, (.slice A0_2 l0_2.length c0_2), .int .i64 a0_3, (.slice A0_4 l0_4.length c0_4)] 162 (0, 0))) ∧ Aside0 (Below w.heap.size w wc))
  case first =>
    have H := HC14.out
    clear HC14
    replace H := bE H; obtain ⟨t102, A17, H⟩ := H
    by_cases c18 : t102 = true
    case neg =>
      replace c18 := Bool.eq_false_iff.mpr c18
      subst c18
      rw [if_neg nft] at H
      have H' := aM H
      clear H
      obtain ⟨hczy1, hczy2, hczy3, hczy4, hczy5, hfzy1, hfzy2, hfzy3, hfzy4, hfzy5⟩ := cZ5 BKz1.out
      go_wp2_with (first | (refine goesM 43 32 Tryz.func43 #[.int .i64 a0_0, .int .i64 1, .int .i64 1000000] ?_; refine (spec_l1In.calls _ _ _ _ _ A17.out).mono ?_; rintro e w' ⟨rfl, ⟨nd, rfl⟩⟩; refine ⟨_, rfl, ?_⟩))
      go_meet
      case rel => exact ⟨_, (true), rS, H', ⟨by first | omega | exact Nat.le_refl _⟩, ⟨(bX BKz1.out)⟩, ⟨(hX HB.out)⟩⟩
    subst c18
    rw [if_pos rfl] at H
    replace H := bE H; obtain ⟨t103, A19, H⟩ := H
    obtain ⟨hczy1, hczy2, hczy3, hczy4, hczy5, hfzy1, hfzy2, hfzy3, hfzy4, hfzy5⟩ := cZ5 BKz1.out
    go_wp2_with (first | (refine goesM 43 32 Tryz.func43 #[.int .i64 a0_0, .int .i64 1, .int .i64 1000000] ?_; refine (spec_l1In.calls _ _ _ _ _ A17.out).mono ?_; rintro e w' ⟨rfl, ⟨nd, rfl⟩⟩; refine ⟨_, rfl, ?_⟩; refine Stop.out ?_))
    refine ⟨?_⟩
    by_cases c20 : t103 = true
    · subst c20
      rw [if_pos rfl] at H
      have H' := aM H
      clear H
      go_wp2_with (first | (go_at_call 43; (with_reducible refine (spec_l1In.calls _ _ _ _ _ A19.out).mono ?_); rintro e w' ⟨rfl, ⟨nd, rfl⟩⟩))
      go_meet
      case rel => exact ⟨_, (decide ((l0_2.length : Int) > 20)), rS, H', ⟨by first | omega | exact Nat.le_refl _⟩, ⟨(bX BKz1.out)⟩, ⟨(hX HB.out)⟩⟩
    replace c20 := Bool.eq_false_iff.mpr c20
    subst c20
    rw [if_neg nft] at H
    have H' := aM H
    clear H
    go_wp2_with (first | (go_at_call 43; (with_reducible refine (spec_l1In.calls _ _ _ _ _ A19.out).mono ?_); rintro e w' ⟨rfl, ⟨nd, rfl⟩⟩))
    go_meet
    case rel => exact ⟨_, (true), rS, H', ⟨by first | omega | exact Nat.le_refl _⟩, ⟨(bX BKz1.out)⟩, ⟨(hX HB.out)⟩⟩
  case rest =>
    clear HC14
    try clear c2
    try clear c2b0
    try clear c2b1
    try clear p2
    try clear hczz1 hczz2 hczz3 hczz4 hczz5 hfzz1 hfzz2 hfzz3 hfzz4 hfzz5
    obtain ⟨kq, x45_13, rfl, HA, HJy1, BKz1, HB⟩ := hcut
    cases kq with
    | zero => exact absurd HA.out (by simp [spec_DescOk.j0])
    | succ kj13 =>
      have H := HA.out
      clear HA
      simp only [spec_DescOk.j0] at H
      by_cases c24 : x45_13 = true
      · subst c24
        rw [if_pos rfl] at H
        obtain rfl := sI H
        go_wp2
        go_ret
        exact ⟨rE, (hX HB.out)⟩
      replace c24 := Bool.eq_false_iff.mpr c24
      subst c24
      rw [if_neg nft] at H
      have H' := aM H
      clear H
      go_wp2
      go_loopg [3] kj13 (fun kq v3 w' => ∃ (x3_2 : Int), v3 = .int .i64 x3_2 ∧ Aside0 (spec_DescOk.l0 kq x3_2 a0_0 a0_1 l0_2 a0_3 l0_4 = some r) ∧ Aside0 (kq ≤ kj13) ∧ Aside0 (w'.heap[gbz1]? = some (.cells #[.int .i64 a0_0, .int .i64 a0_1, (.slice A0_2 l0_2.length c0_2), .int .i64 a0_3, (.slice A0_4 l0_4.length c0_4)] 162 (0, 0))) ∧ Aside0 (Below w.heap.size w w'))
      case atStart => exact ⟨(0), rS, H', ⟨Nat.le_refl _⟩, ⟨(bX BKz1.out)⟩, ⟨(hX HB.out)⟩⟩
      case round =>
        clear H'
        try clear c2
        try clear c2b0
        try clear c2b1
        try clear p2
        try clear c24
        try clear hczz1 hczz2 hczz3 hczz4 hczz5 hfzz1 hfzz2 hfzz3 hfzz4 hfzz5
        obtain ⟨x3_2, rfl, HA, HKw1, BKz1, HB⟩ := hrel
        cases gk with
        | zero => exact absurd HA.out (by simp [spec_DescOk.l0])
        | succ k2 =>
          have H := HA.out
          clear HA
          simp only [spec_DescOk.l0] at H
          by_cases c25 : x3_2 < (l0_2.length : Int)
          case neg =>
            rw [if_neg c25] at H
            have c25b0 := decide_eq_false c25
            clear c25
            obtain rfl := sI H
            obtain ⟨hczv1, hczv2, hczv3, hczv4, hczv5, hfzv1, hfzv2, hfzv3, hfzv4, hfzv5⟩ := cZ5 BKz1.out
            go_wp2
            go_ret
            exact ⟨rE, (hX HB.out)⟩
          rw [if_pos c25] at H
          have c25b0 := decide_eq_true c25
          clear c25
          replace H := ifP H; obtain ⟨c26, H⟩ := H
          have c26b0 := decide_eq_true c26
          clear c26
          replace H := bE H; obtain ⟨t106, A27, H⟩ := H
          obtain ⟨hczv1, hczv2, hczv3, hczv4, hczv5, hfzv1, hfzv2, hfzv3, hfzv4, hfzv5⟩ := cZ5 BKz1.out
          have pv1 : 0 ≤ (x3_2 : Int) := odA
          have qv1 : x3_2 < (l0_2.length : Int) := odA
          obtain ⟨adv1, ev1, hxv1, hxv2, hxv3⟩ := at_T165b HR0_2.out HB.out x3_2 pv1 qv1
          cases ev1
          replace pv1 := eq_true pv1
          replace qv1 := eq_true qv1
          go_wp2_with (first | ((with_reducible refine gate_dst (N := 4) rfl ?_); (try (refine gate_guard (by rfl) ?_; dsimp only)); refine boxF 4 #[.int .i64 0, .int .i64 0, .int .i64 0] 165 ?_; intro gbv1 hg wv1 hbox hb; have BKv1 := aM (hbox); have GWv1 := aG hg HB; have GEv1 := aG hg HB; have NBv1 := aL hg BKz1; have NBv2 := aR hg BKz1; replace BKz1 := aB BKz1 hb; replace HB := aS HB hb; clear hb hbox hg; have hnbv1 := NBv2.out; have hncv1 := NBv1.out; obtain ⟨hczv6, hczv7, hczv8, hfzv6, hfzv7, hfzv8⟩ := cZ3 BKv1.out; refine Stop.out ?_))
          refine ⟨?_⟩
          by_cases c28 : t106 = true
          case neg =>
            replace c28 := Bool.eq_false_iff.mpr c28
            subst c28
            rw [if_neg nft] at H
            obtain rfl := sI H
            try go_wp2
            have nv1 : Aside0 ((((wv1.setCell ⟨gbv1, 0, none⟩ (.int .i64 ((rd_T165 l0_2 x3_2).f0))).setCell ⟨gbv1, 1, none⟩ (.int .i64 ((rd_T165 l0_2 x3_2).f1))).setCell ⟨gbv1, 2, none⟩ (.int .i64 ((rd_T165 l0_2 x3_2).f2))).heap[gbz1]? = some (.cells #[.int .i64 a0_0, .int .i64 a0_1, .slice (some adv1) l0_2.length c0_2, .int .i64 a0_3, .slice A0_4 l0_4.length c0_4] 162 (0, 0))) := ⟨(bF BKz1.out)⟩
            have nv2 : Aside0 ((((wv1.setCell ⟨gbv1, 0, none⟩ (.int .i64 ((rd_T165 l0_2 x3_2).f0))).setCell ⟨gbv1, 1, none⟩ (.int .i64 ((rd_T165 l0_2 x3_2).f1))).setCell ⟨gbv1, 2, none⟩ (.int .i64 ((rd_T165 l0_2 x3_2).f2))).heap[gbv1]? = some (.cells #[.int .i64 ((rd_T165 l0_2 x3_2).f0), .int .i64 ((rd_T165 l0_2 x3_2).f1), .int .i64 ((rd_T165 l0_2 x3_2).f2)] 165 (0, 0))) := ⟨(bP BKv1.out)⟩
            have nv3 : Aside0 (Below w.heap.size w (((wv1.setCell ⟨gbv1, 0, none⟩ (.int .i64 ((rd_T165 l0_2 x3_2).f0))).setCell ⟨gbv1, 1, none⟩ (.int .i64 ((rd_T165 l0_2 x3_2).f1))).setCell ⟨gbv1, 2, none⟩ (.int .i64 ((rd_T165 l0_2 x3_2).f2)))) := ⟨(hX HB.out)⟩
            (try clear BKz1)
            (try clear BKv1)
            (try clear HB)
            generalize (((wv1.setCell ⟨gbv1, 0, none⟩ (.int .i64 ((rd_T165 l0_2 x3_2).f0))).setCell ⟨gbv1, 1, none⟩ (.int .i64 ((rd_T165 l0_2 x3_2).f1))).setCell ⟨gbv1, 2, none⟩ (.int .i64 ((rd_T165 l0_2 x3_2).f2))) = wv2 at nv1 nv2 nv3 ⊢
            have BKz1 := nv1
            have BKv1 := nv2
            have HB := nv3
            clear nv1 nv2 nv3
            replace BKz1 := aM (blk_drew BKz1.out)
            replace BKv1 := aM (blk_drew BKv1.out)
            replace HB := aM (below_drew1 HB.out)
            refine start_ (n := 32) (S := fun w' => w'.cell? ⟨gbv1, 0, none⟩ = some (.int .i64 ((rd_T165 l0_2 x3_2).f0)) ∧ w'.cell? ⟨gbv1, 1, none⟩ = some (.int .i64 ((rd_T165 l0_2 x3_2).f1)) ∧ w'.cell? ⟨gbv1, 2, none⟩ = some (.int .i64 ((rd_T165 l0_2 x3_2).f2))) (ds := []) (bm 32 0) (by kernel_rfl) rfl (by kernel_rfl) ⟨cK BKv1.out 0, cK BKv1.out 1, cK BKv1.out 2⟩ (fun hHeld => ?_); refine with_tabW spec_DescOk.tab9 spec_DescOk.bits9 (fun HT_ HW_ => ?_)
            generalize wv2.drew = wv3 at BKz1 BKv1 HB hHeld ⊢
            refine pZ 0 58 (bm 32 1) HT_.out ?_
            refine tZ 1 59 (bm 32 3) HT_.out HW_.out hHeld ?_
            refine oZ 2 (some 60) (bm 32 7) HT_.out (fun K hK => ?_)
            refine goesN Tryz.func43 #[.int .i64 ((rd_T165 l0_2 x3_2).f0), .int .i64 0, .int .i64 19] ?_
            with_reducible refine (spec_l1In.calls _ _ _ _ _ A27.out).mono ?_
            rintro e w' ⟨rfl, ⟨nd, rfl⟩⟩
            refine ⟨_, rfl, ?_⟩
            refine hK.out _ _ ⟨cK BKv1.out 0, cK BKv1.out 1, cK BKv1.out 2⟩ (fun hHeld => ?_)
            clear hK K
            refine nZ 60 ?_
            refine pZ 3 61 (bm 32 15) HT_.out ?_
            refine pZ 4 62 (bm 32 31) HT_.out ?_
            refine pU 5 63 (bm 32 63) HT_.out ?_
            refine pU 6 64 (bm 32 127) HT_.out ?_
            refine pU 7 65 (bm 32 255) HT_.out ?_
            refine pU 8 66 (bm 32 511) HT_.out ?_
            refine pZ 9 67 (bm 32 1023) HT_.out ?_
            refine pZ 10 68 (bm 32 2047) HT_.out ?_
            refine pU 11 69 (bm 32 4095) HT_.out ?_
            refine pU 12 70 (bm 32 8191) HT_.out ?_
            refine pU 13 71 (bm 32 16383) HT_.out ?_
            refine pU 14 72 (bm 32 32767) HT_.out ?_
            refine pZ 15 73 (bm 32 65535) HT_.out ?_
            refine pZ 16 74 (bm 32 131071) HT_.out ?_
            refine pU 17 75 (bm 32 262143) HT_.out ?_
            refine pU 18 76 (bm 32 524287) HT_.out ?_
            refine pU 19 77 (bm 32 1048575) HT_.out ?_
            refine pU 20 78 (bm 32 2097151) HT_.out ?_
            refine pU 21 79 (bm 32 4194303) HT_.out ?_
            refine pU 22 80 (bm 32 8388607) HT_.out ?_
            refine pU 23 81 (bm 32 16777215) HT_.out ?_
            refine pU 24 82 (bm 32 33554431) HT_.out ?_
            refine pU 25 83 (bm 32 67108863) HT_.out ?_
            refine pU 26 84 (bm 32 134217727) HT_.out ?_
            refine pU 27 85 (bm 32 268435455) HT_.out ?_
            refine pU 28 86 (bm 32 536870911) HT_.out ?_
            refine pU 29 87 (bm 32 1073741823) HT_.out ?_
            refine pU 30 88 (bm 32 2147483647) HT_.out ?_
            refine pZ 31 89 (bm 32 4294967295) HT_.out ?_
            refine done_ (done_of HT_.out (by kernel_rfl)) ?_
            try go_wp2
            go_ret
            exact ⟨rE, (hX HB.out)⟩
          subst c28
          rw [if_pos rfl] at H
          replace H := bE H; obtain ⟨t107, A29, H⟩ := H
          by_cases c30 : t107 = true
          case neg =>
            replace c30 := Bool.eq_false_iff.mpr c30
            subst c30
            rw [if_neg nft] at H
            obtain rfl := sI H
            try go_wp2
            have nv1 : Aside0 ((((wv1.setCell ⟨gbv1, 0, none⟩ (.int .i64 ((rd_T165 l0_2 x3_2).f0))).setCell ⟨gbv1, 1, none⟩ (.int .i64 ((rd_T165 l0_2 x3_2).f1))).setCell ⟨gbv1, 2, none⟩ (.int .i64 ((rd_T165 l0_2 x3_2).f2))).heap[gbz1]? = some (.cells #[.int .i64 a0_0, .int .i64 a0_1, .slice (some adv1) l0_2.length c0_2, .int .i64 a0_3, .slice A0_4 l0_4.length c0_4] 162 (0, 0))) := ⟨(bF BKz1.out)⟩
            have nv2 : Aside0 ((((wv1.setCell ⟨gbv1, 0, none⟩ (.int .i64 ((rd_T165 l0_2 x3_2).f0))).setCell ⟨gbv1, 1, none⟩ (.int .i64 ((rd_T165 l0_2 x3_2).f1))).setCell ⟨gbv1, 2, none⟩ (.int .i64 ((rd_T165 l0_2 x3_2).f2))).heap[gbv1]? = some (.cells #[.int .i64 ((rd_T165 l0_2 x3_2).f0), .int .i64 ((rd_T165 l0_2 x3_2).f1), .int .i64 ((rd_T165 l0_2 x3_2).f2)] 165 (0, 0))) := ⟨(bP BKv1.out)⟩
            have nv3 : Aside0 (Below w.heap.size w (((wv1.setCell ⟨gbv1, 0, none⟩ (.int .i64 ((rd_T165 l0_2 x3_2).f0))).setCell ⟨gbv1, 1, none⟩ (.int .i64 ((rd_T165 l0_2 x3_2).f1))).setCell ⟨gbv1, 2, none⟩ (.int .i64 ((rd_T165 l0_2 x3_2).f2)))) := ⟨(hX HB.out)⟩
            (try clear BKz1)
            (try clear BKv1)
            (try clear HB)
            generalize (((wv1.setCell ⟨gbv1, 0, none⟩ (.int .i64 ((rd_T165 l0_2 x3_2).f0))).setCell ⟨gbv1, 1, none⟩ (.int .i64 ((rd_T165 l0_2 x3_2).f1))).setCell ⟨gbv1, 2, none⟩ (.int .i64 ((rd_T165 l0_2 x3_2).f2))) = wv2 at nv1 nv2 nv3 ⊢
            have BKz1 := nv1
            have BKv1 := nv2
            have HB := nv3
            clear nv1 nv2 nv3
            replace BKz1 := aM (blk_drew BKz1.out)
            replace BKv1 := aM (blk_drew BKv1.out)
            replace HB := aM (below_drew1 HB.out)
            refine start_ (n := 32) (S := fun w' => w'.cell? ⟨gbv1, 0, none⟩ = some (.int .i64 ((rd_T165 l0_2 x3_2).f0)) ∧ w'.cell? ⟨gbv1, 1, none⟩ = some (.int .i64 ((rd_T165 l0_2 x3_2).f1)) ∧ w'.cell? ⟨gbv1, 2, none⟩ = some (.int .i64 ((rd_T165 l0_2 x3_2).f2))) (ds := []) (bm 32 0) (by kernel_rfl) rfl (by kernel_rfl) ⟨cK BKv1.out 0, cK BKv1.out 1, cK BKv1.out 2⟩ (fun hHeld => ?_); refine with_tabW spec_DescOk.tab9 spec_DescOk.bits9 (fun HT_ HW_ => ?_)
            generalize wv2.drew = wv3 at BKz1 BKv1 HB hHeld ⊢
            refine pZ 0 58 (bm 32 1) HT_.out ?_
            refine tZ 1 59 (bm 32 3) HT_.out HW_.out hHeld ?_
            refine oZ 2 (some 60) (bm 32 7) HT_.out (fun K hK => ?_)
            refine goesN Tryz.func43 #[.int .i64 ((rd_T165 l0_2 x3_2).f0), .int .i64 0, .int .i64 19] ?_
            with_reducible refine (spec_l1In.calls _ _ _ _ _ A27.out).mono ?_
            rintro e w' ⟨rfl, ⟨nd, rfl⟩⟩
            refine ⟨_, rfl, ?_⟩
            refine hK.out _ _ ⟨cK BKv1.out 0, cK BKv1.out 1, cK BKv1.out 2⟩ (fun hHeld => ?_)
            clear hK K
            refine nZ 60 ?_
            refine pZ 3 61 (bm 32 15) HT_.out ?_
            refine pZ 4 62 (bm 32 31) HT_.out ?_
            refine pZ 5 63 (bm 32 63) HT_.out ?_
            refine tZ 6 64 (bm 32 127) HT_.out HW_.out hHeld ?_
            refine oZ 7 (some 65) (bm 32 255) HT_.out (fun K hK => ?_)
            refine goesN Tryz.func43 #[.int .i64 ((rd_T165 l0_2 x3_2).f1), .int .i64 0, .int .i64 1000] ?_
            with_reducible refine (spec_l1In.calls _ _ _ _ _ A29.out).mono ?_
            rintro e w' ⟨rfl, ⟨nd, rfl⟩⟩
            refine ⟨_, rfl, ?_⟩
            refine hK.out _ _ ⟨cK BKv1.out 0, cK BKv1.out 1, cK BKv1.out 2⟩ (fun hHeld => ?_)
            clear hK K
            refine nZ 65 ?_
            refine pZ 8 66 (bm 32 511) HT_.out ?_
            refine pZ 9 67 (bm 32 1023) HT_.out ?_
            refine pZ 10 68 (bm 32 2047) HT_.out ?_
            refine pU 11 69 (bm 32 4095) HT_.out ?_
            refine pU 12 70 (bm 32 8191) HT_.out ?_
            refine pU 13 71 (bm 32 16383) HT_.out ?_
            refine pU 14 72 (bm 32 32767) HT_.out ?_
            refine pZ 15 73 (bm 32 65535) HT_.out ?_
            refine pZ 16 74 (bm 32 131071) HT_.out ?_
            refine pU 17 75 (bm 32 262143) HT_.out ?_
            refine pU 18 76 (bm 32 524287) HT_.out ?_
            refine pU 19 77 (bm 32 1048575) HT_.out ?_
            refine pU 20 78 (bm 32 2097151) HT_.out ?_
            refine pU 21 79 (bm 32 4194303) HT_.out ?_
            refine pU 22 80 (bm 32 8388607) HT_.out ?_
            refine pU 23 81 (bm 32 16777215) HT_.out ?_
            refine pU 24 82 (bm 32 33554431) HT_.out ?_
            refine pU 25 83 (bm 32 67108863) HT_.out ?_
            refine pU 26 84 (bm 32 134217727) HT_.out ?_
            refine pU 27 85 (bm 32 268435455) HT_.out ?_
            refine pU 28 86 (bm 32 536870911) HT_.out ?_
            refine pU 29 87 (bm 32 1073741823) HT_.out ?_
            refine pU 30 88 (bm 32 2147483647) HT_.out ?_
            refine pZ 31 89 (bm 32 4294967295) HT_.out ?_
            refine done_ (done_of HT_.out (by kernel_rfl)) ?_
            try go_wp2
            go_ret
            exact ⟨rE, (hX HB.out)⟩
          subst c30
          rw [if_pos rfl] at H
          replace H := bE H; obtain ⟨t108, A31, H⟩ := H
          by_cases c32 : t108 = true
          case neg =>
            replace c32 := Bool.eq_false_iff.mpr c32
            subst c32
            rw [if_neg nft] at H
            obtain rfl := sI H
            try go_wp2
            have nv1 : Aside0 ((((wv1.setCell ⟨gbv1, 0, none⟩ (.int .i64 ((rd_T165 l0_2 x3_2).f0))).setCell ⟨gbv1, 1, none⟩ (.int .i64 ((rd_T165 l0_2 x3_2).f1))).setCell ⟨gbv1, 2, none⟩ (.int .i64 ((rd_T165 l0_2 x3_2).f2))).heap[gbz1]? = some (.cells #[.int .i64 a0_0, .int .i64 a0_1, .slice (some adv1) l0_2.length c0_2, .int .i64 a0_3, .slice A0_4 l0_4.length c0_4] 162 (0, 0))) := ⟨(bF BKz1.out)⟩
            have nv2 : Aside0 ((((wv1.setCell ⟨gbv1, 0, none⟩ (.int .i64 ((rd_T165 l0_2 x3_2).f0))).setCell ⟨gbv1, 1, none⟩ (.int .i64 ((rd_T165 l0_2 x3_2).f1))).setCell ⟨gbv1, 2, none⟩ (.int .i64 ((rd_T165 l0_2 x3_2).f2))).heap[gbv1]? = some (.cells #[.int .i64 ((rd_T165 l0_2 x3_2).f0), .int .i64 ((rd_T165 l0_2 x3_2).f1), .int .i64 ((rd_T165 l0_2 x3_2).f2)] 165 (0, 0))) := ⟨(bP BKv1.out)⟩
            have nv3 : Aside0 (Below w.heap.size w (((wv1.setCell ⟨gbv1, 0, none⟩ (.int .i64 ((rd_T165 l0_2 x3_2).f0))).setCell ⟨gbv1, 1, none⟩ (.int .i64 ((rd_T165 l0_2 x3_2).f1))).setCell ⟨gbv1, 2, none⟩ (.int .i64 ((rd_T165 l0_2 x3_2).f2)))) := ⟨(hX HB.out)⟩
            (try clear BKz1)
            (try clear BKv1)
            (try clear HB)
            generalize (((wv1.setCell ⟨gbv1, 0, none⟩ (.int .i64 ((rd_T165 l0_2 x3_2).f0))).setCell ⟨gbv1, 1, none⟩ (.int .i64 ((rd_T165 l0_2 x3_2).f1))).setCell ⟨gbv1, 2, none⟩ (.int .i64 ((rd_T165 l0_2 x3_2).f2))) = wv2 at nv1 nv2 nv3 ⊢
            have BKz1 := nv1
            have BKv1 := nv2
            have HB := nv3
            clear nv1 nv2 nv3
            replace BKz1 := aM (blk_drew BKz1.out)
            replace BKv1 := aM (blk_drew BKv1.out)
            replace HB := aM (below_drew1 HB.out)
            refine start_ (n := 32) (S := fun w' => w'.cell? ⟨gbv1, 0, none⟩ = some (.int .i64 ((rd_T165 l0_2 x3_2).f0)) ∧ w'.cell? ⟨gbv1, 1, none⟩ = some (.int .i64 ((rd_T165 l0_2 x3_2).f1)) ∧ w'.cell? ⟨gbv1, 2, none⟩ = some (.int .i64 ((rd_T165 l0_2 x3_2).f2))) (ds := []) (bm 32 0) (by kernel_rfl) rfl (by kernel_rfl) ⟨cK BKv1.out 0, cK BKv1.out 1, cK BKv1.out 2⟩ (fun hHeld => ?_); refine with_tabW spec_DescOk.tab9 spec_DescOk.bits9 (fun HT_ HW_ => ?_)
            generalize wv2.drew = wv3 at BKz1 BKv1 HB hHeld ⊢
            refine pZ 0 58 (bm 32 1) HT_.out ?_
            refine tZ 1 59 (bm 32 3) HT_.out HW_.out hHeld ?_
            refine oZ 2 (some 60) (bm 32 7) HT_.out (fun K hK => ?_)
            refine goesN Tryz.func43 #[.int .i64 ((rd_T165 l0_2 x3_2).f0), .int .i64 0, .int .i64 19] ?_
            with_reducible refine (spec_l1In.calls _ _ _ _ _ A27.out).mono ?_
            rintro e w' ⟨rfl, ⟨nd, rfl⟩⟩
            refine ⟨_, rfl, ?_⟩
            refine hK.out _ _ ⟨cK BKv1.out 0, cK BKv1.out 1, cK BKv1.out 2⟩ (fun hHeld => ?_)
            clear hK K
            refine nZ 60 ?_
            refine pZ 3 61 (bm 32 15) HT_.out ?_
            refine pZ 4 62 (bm 32 31) HT_.out ?_
            refine pZ 5 63 (bm 32 63) HT_.out ?_
            refine tZ 6 64 (bm 32 127) HT_.out HW_.out hHeld ?_
            refine oZ 7 (some 65) (bm 32 255) HT_.out (fun K hK => ?_)
            refine goesN Tryz.func43 #[.int .i64 ((rd_T165 l0_2 x3_2).f1), .int .i64 0, .int .i64 1000] ?_
            with_reducible refine (spec_l1In.calls _ _ _ _ _ A29.out).mono ?_
            rintro e w' ⟨rfl, ⟨nd, rfl⟩⟩
            refine ⟨_, rfl, ?_⟩
            refine hK.out _ _ ⟨cK BKv1.out 0, cK BKv1.out 1, cK BKv1.out 2⟩ (fun hHeld => ?_)
            clear hK K
            refine nZ 65 ?_
            refine pZ 8 66 (bm 32 511) HT_.out ?_
            refine pZ 9 67 (bm 32 1023) HT_.out ?_
            refine pZ 10 68 (bm 32 2047) HT_.out ?_
            refine pZ 11 69 (bm 32 4095) HT_.out ?_
            refine tZ 12 70 (bm 32 8191) HT_.out HW_.out hHeld ?_
            refine oZ 13 (some 71) (bm 32 16383) HT_.out (fun K hK => ?_)
            refine goesN Tryz.func43 #[.int .i64 ((rd_T165 l0_2 x3_2).f2), .int .i64 0, .int .i64 1000] ?_
            with_reducible refine (spec_l1In.calls _ _ _ _ _ A31.out).mono ?_
            rintro e w' ⟨rfl, ⟨nd, rfl⟩⟩
            refine ⟨_, rfl, ?_⟩
            refine hK.out _ _ ⟨cK BKv1.out 0, cK BKv1.out 1, cK BKv1.out 2⟩ (fun hHeld => ?_)
            clear hK K
            refine nZ 71 ?_
            refine pZ 14 72 (bm 32 32767) HT_.out ?_
            refine pZ 15 73 (bm 32 65535) HT_.out ?_
            refine pZ 16 74 (bm 32 131071) HT_.out ?_
            refine pU 17 75 (bm 32 262143) HT_.out ?_
            refine pU 18 76 (bm 32 524287) HT_.out ?_
            refine pU 19 77 (bm 32 1048575) HT_.out ?_
            refine pU 20 78 (bm 32 2097151) HT_.out ?_
            refine pU 21 79 (bm 32 4194303) HT_.out ?_
            refine pU 22 80 (bm 32 8388607) HT_.out ?_
            refine pU 23 81 (bm 32 16777215) HT_.out ?_
            refine pU 24 82 (bm 32 33554431) HT_.out ?_
            refine pU 25 83 (bm 32 67108863) HT_.out ?_
            refine pU 26 84 (bm 32 134217727) HT_.out ?_
            refine pU 27 85 (bm 32 268435455) HT_.out ?_
            refine pU 28 86 (bm 32 536870911) HT_.out ?_
            refine pU 29 87 (bm 32 1073741823) HT_.out ?_
            refine pU 30 88 (bm 32 2147483647) HT_.out ?_
            refine pZ 31 89 (bm 32 4294967295) HT_.out ?_
            refine done_ (done_of HT_.out (by kernel_rfl)) ?_
            try go_wp2
            go_ret
            exact ⟨rE, (hX HB.out)⟩
          subst c32
          rw [if_pos rfl] at H
          by_cases c33 : x3_2 > 0
          case neg =>
            rw [if_neg c33] at H
            have c33b0 := decide_eq_false c33
            clear c33
            have H' := aM H
            clear H
            try go_wp2
            have nv1 : Aside0 ((((wv1.setCell ⟨gbv1, 0, none⟩ (.int .i64 ((rd_T165 l0_2 x3_2).f0))).setCell ⟨gbv1, 1, none⟩ (.int .i64 ((rd_T165 l0_2 x3_2).f1))).setCell ⟨gbv1, 2, none⟩ (.int .i64 ((rd_T165 l0_2 x3_2).f2))).heap[gbz1]? = some (.cells #[.int .i64 a0_0, .int .i64 a0_1, .slice (some adv1) l0_2.length c0_2, .int .i64 a0_3, .slice A0_4 l0_4.length c0_4] 162 (0, 0))) := ⟨(bF BKz1.out)⟩
            have nv2 : Aside0 ((((wv1.setCell ⟨gbv1, 0, none⟩ (.int .i64 ((rd_T165 l0_2 x3_2).f0))).setCell ⟨gbv1, 1, none⟩ (.int .i64 ((rd_T165 l0_2 x3_2).f1))).setCell ⟨gbv1, 2, none⟩ (.int .i64 ((rd_T165 l0_2 x3_2).f2))).heap[gbv1]? = some (.cells #[.int .i64 ((rd_T165 l0_2 x3_2).f0), .int .i64 ((rd_T165 l0_2 x3_2).f1), .int .i64 ((rd_T165 l0_2 x3_2).f2)] 165 (0, 0))) := ⟨(bP BKv1.out)⟩
            have nv3 : Aside0 (Below w.heap.size w (((wv1.setCell ⟨gbv1, 0, none⟩ (.int .i64 ((rd_T165 l0_2 x3_2).f0))).setCell ⟨gbv1, 1, none⟩ (.int .i64 ((rd_T165 l0_2 x3_2).f1))).setCell ⟨gbv1, 2, none⟩ (.int .i64 ((rd_T165 l0_2 x3_2).f2)))) := ⟨(hX HB.out)⟩
            (try clear BKz1)
            (try clear BKv1)
            (try clear HB)
            generalize (((wv1.setCell ⟨gbv1, 0, none⟩ (.int .i64 ((rd_T165 l0_2 x3_2).f0))).setCell ⟨gbv1, 1, none⟩ (.int .i64 ((rd_T165 l0_2 x3_2).f1))).setCell ⟨gbv1, 2, none⟩ (.int .i64 ((rd_T165 l0_2 x3_2).f2))) = wv2 at nv1 nv2 nv3 ⊢
            have BKz1 := nv1
            have BKv1 := nv2
            have HB := nv3
            clear nv1 nv2 nv3
            replace BKz1 := aM (blk_drew BKz1.out)
            replace BKv1 := aM (blk_drew BKv1.out)
            replace HB := aM (below_drew1 HB.out)
            refine start_ (n := 32) (S := fun w' => w'.cell? ⟨gbv1, 0, none⟩ = some (.int .i64 ((rd_T165 l0_2 x3_2).f0)) ∧ w'.cell? ⟨gbv1, 1, none⟩ = some (.int .i64 ((rd_T165 l0_2 x3_2).f1)) ∧ w'.cell? ⟨gbv1, 2, none⟩ = some (.int .i64 ((rd_T165 l0_2 x3_2).f2))) (ds := []) (bm 32 0) (by kernel_rfl) rfl (by kernel_rfl) ⟨cK BKv1.out 0, cK BKv1.out 1, cK BKv1.out 2⟩ (fun hHeld => ?_); refine with_tabW spec_DescOk.tab9 spec_DescOk.bits9 (fun HT_ HW_ => ?_)
            generalize wv2.drew = wv3 at BKz1 BKv1 HB hHeld ⊢
            refine pZ 0 58 (bm 32 1) HT_.out ?_
            refine tZ 1 59 (bm 32 3) HT_.out HW_.out hHeld ?_
            refine oZ 2 (some 60) (bm 32 7) HT_.out (fun K hK => ?_)
            refine goesN Tryz.func43 #[.int .i64 ((rd_T165 l0_2 x3_2).f0), .int .i64 0, .int .i64 19] ?_
            with_reducible refine (spec_l1In.calls _ _ _ _ _ A27.out).mono ?_
            rintro e w' ⟨rfl, ⟨nd, rfl⟩⟩
            refine ⟨_, rfl, ?_⟩
            refine hK.out _ _ ⟨cK BKv1.out 0, cK BKv1.out 1, cK BKv1.out 2⟩ (fun hHeld => ?_)
            clear hK K
            refine nZ 60 ?_
            refine pZ 3 61 (bm 32 15) HT_.out ?_
            refine pZ 4 62 (bm 32 31) HT_.out ?_
            refine pZ 5 63 (bm 32 63) HT_.out ?_
            refine tZ 6 64 (bm 32 127) HT_.out HW_.out hHeld ?_
            refine oZ 7 (some 65) (bm 32 255) HT_.out (fun K hK => ?_)
            refine goesN Tryz.func43 #[.int .i64 ((rd_T165 l0_2 x3_2).f1), .int .i64 0, .int .i64 1000] ?_
            with_reducible refine (spec_l1In.calls _ _ _ _ _ A29.out).mono ?_
            rintro e w' ⟨rfl, ⟨nd, rfl⟩⟩
            refine ⟨_, rfl, ?_⟩
            refine hK.out _ _ ⟨cK BKv1.out 0, cK BKv1.out 1, cK BKv1.out 2⟩ (fun hHeld => ?_)
            clear hK K
            refine nZ 65 ?_
            refine pZ 8 66 (bm 32 511) HT_.out ?_
            refine pZ 9 67 (bm 32 1023) HT_.out ?_
            refine pZ 10 68 (bm 32 2047) HT_.out ?_
            refine pZ 11 69 (bm 32 4095) HT_.out ?_
            refine tZ 12 70 (bm 32 8191) HT_.out HW_.out hHeld ?_
            refine oZ 13 (some 71) (bm 32 16383) HT_.out (fun K hK => ?_)
            refine goesN Tryz.func43 #[.int .i64 ((rd_T165 l0_2 x3_2).f2), .int .i64 0, .int .i64 1000] ?_
            with_reducible refine (spec_l1In.calls _ _ _ _ _ A31.out).mono ?_
            rintro e w' ⟨rfl, ⟨nd, rfl⟩⟩
            refine ⟨_, rfl, ?_⟩
            refine hK.out _ _ ⟨cK BKv1.out 0, cK BKv1.out 1, cK BKv1.out 2⟩ (fun hHeld => ?_)
            clear hK K
            refine nZ 71 ?_
            refine pZ 14 72 (bm 32 32767) HT_.out ?_
            refine pZ 15 73 (bm 32 65535) HT_.out ?_
            refine pZ 16 74 (bm 32 131071) HT_.out ?_
            refine pZ 17 75 (bm 32 262143) HT_.out ?_
            refine pZ 18 76 (bm 32 524287) HT_.out ?_
            refine pZ 19 77 (bm 32 1048575) HT_.out ?_
            refine pU 20 78 (bm 32 2097151) HT_.out ?_
            refine pU 21 79 (bm 32 4194303) HT_.out ?_
            refine pU 22 80 (bm 32 8388607) HT_.out ?_
            refine pU 23 81 (bm 32 16777215) HT_.out ?_
            refine pU 24 82 (bm 32 33554431) HT_.out ?_
            refine pU 25 83 (bm 32 67108863) HT_.out ?_
            refine pU 26 84 (bm 32 134217727) HT_.out ?_
            refine pU 27 85 (bm 32 268435455) HT_.out ?_
            refine pU 28 86 (bm 32 536870911) HT_.out ?_
            refine pU 29 87 (bm 32 1073741823) HT_.out ?_
            refine pZ 30 88 (bm 32 2147483647) HT_.out ?_
            refine pZ 31 89 (bm 32 4294967295) HT_.out ?_
            refine done_ (done_of HT_.out (by kernel_rfl)) ?_
            try go_wp2
            go_roundg k2
            case measure => have := HJy1.out; have := HKw1.out; omega
            case rel => exact ⟨(wrap64 (x3_2 + 1)), rS, H', ⟨by have := HJy1.out; have := HKw1.out; omega⟩, ⟨(bX BKz1.out)⟩, ⟨(hX HB.out)⟩⟩
          rw [if_pos c33] at H
          have c33b0 := decide_eq_true c33
          clear c33
          obtain ⟨ji34, hji34⟩ : ∃ j_ : Int, (wrap64 (x3_2 - 1)) = j_ := ⟨_, rfl⟩
          replace H : (if 0 ≤ (ji34) then (if (ji34) < (l0_2.length : Int) then (if ((rd_T165 l0_2 (ji34)).f0) ≥ ((rd_T165 l0_2 x3_2).f0) then (some false) else (spec_DescOk.l0 k2 (wrap64 (x3_2 + 1)) a0_0 a0_1 l0_2 a0_3 l0_4)) else (none)) else (none)) = some r := by first | (rw [hji34] at H; exact H) | (simp only [hji34] at H ⊢; exact H)
          (try rw [hji34] at A27)
          (try rw [hji34] at A29)
          (try rw [hji34] at A31)
          have hji34w : (IntKind.i64.wrap (x3_2 - 1)) = ji34 := (i64_w _).trans hji34
          replace H := ifP H; obtain ⟨c35, H⟩ := H
          have c35b0 := decide_eq_true c35
          clear c35
          replace H := ifP H; obtain ⟨c36, H⟩ := H
          have c36b0 := decide_eq_true c36
          clear c36
          by_cases c37 : ((rd_T165 l0_2 (ji34)).f0) ≥ ((rd_T165 l0_2 x3_2).f0)
          · rw [if_pos c37] at H
            have c37b0 := decide_eq_true c37
            clear c37
            obtain rfl := sI H
            try go_wp2
            have nv1 : Aside0 ((((wv1.setCell ⟨gbv1, 0, none⟩ (.int .i64 ((rd_T165 l0_2 x3_2).f0))).setCell ⟨gbv1, 1, none⟩ (.int .i64 ((rd_T165 l0_2 x3_2).f1))).setCell ⟨gbv1, 2, none⟩ (.int .i64 ((rd_T165 l0_2 x3_2).f2))).heap[gbz1]? = some (.cells #[.int .i64 a0_0, .int .i64 a0_1, .slice (some adv1) l0_2.length c0_2, .int .i64 a0_3, .slice A0_4 l0_4.length c0_4] 162 (0, 0))) := ⟨(bF BKz1.out)⟩
            have nv2 : Aside0 ((((wv1.setCell ⟨gbv1, 0, none⟩ (.int .i64 ((rd_T165 l0_2 x3_2).f0))).setCell ⟨gbv1, 1, none⟩ (.int .i64 ((rd_T165 l0_2 x3_2).f1))).setCell ⟨gbv1, 2, none⟩ (.int .i64 ((rd_T165 l0_2 x3_2).f2))).heap[gbv1]? = some (.cells #[.int .i64 ((rd_T165 l0_2 x3_2).f0), .int .i64 ((rd_T165 l0_2 x3_2).f1), .int .i64 ((rd_T165 l0_2 x3_2).f2)] 165 (0, 0))) := ⟨(bP BKv1.out)⟩
            have nv3 : Aside0 (Below w.heap.size w (((wv1.setCell ⟨gbv1, 0, none⟩ (.int .i64 ((rd_T165 l0_2 x3_2).f0))).setCell ⟨gbv1, 1, none⟩ (.int .i64 ((rd_T165 l0_2 x3_2).f1))).setCell ⟨gbv1, 2, none⟩ (.int .i64 ((rd_T165 l0_2 x3_2).f2)))) := ⟨(hX HB.out)⟩
            (try clear BKz1)
            (try clear BKv1)
            (try clear HB)
            generalize (((wv1.setCell ⟨gbv1, 0, none⟩ (.int .i64 ((rd_T165 l0_2 x3_2).f0))).setCell ⟨gbv1, 1, none⟩ (.int .i64 ((rd_T165 l0_2 x3_2).f1))).setCell ⟨gbv1, 2, none⟩ (.int .i64 ((rd_T165 l0_2 x3_2).f2))) = wv2 at nv1 nv2 nv3 ⊢
            have BKz1 := nv1
            have BKv1 := nv2
            have HB := nv3
            clear nv1 nv2 nv3
            replace BKz1 := aM (blk_drew BKz1.out)
            replace BKv1 := aM (blk_drew BKv1.out)
            replace HB := aM (below_drew1 HB.out)
            have pv2 : 0 ≤ ((ji34) : Int) := odA
            have qv2 : (ji34) < (l0_2.length : Int) := odA
            obtain ⟨adv2, ev2, hxv4, hxv5, hxv6⟩ := at_T165 HR0_2.out (ji34) pv2 qv2
            have hwv1 := hxv6
            have hwv2 := hxv5
            have hwv3 := hxv4
            obtain rfl : adv1 = adv2 := (by injection ev2)
            replace hxv4 := bc HB.out hxv4
            replace hxv5 := bc HB.out hxv5
            replace hxv6 := bc HB.out hxv6
            replace pv2 := eq_true pv2
            replace qv2 := eq_true qv2
            refine start_ (n := 32) (S := fun w' => w'.cell? ⟨gbv1, 0, none⟩ = some (.int .i64 ((rd_T165 l0_2 x3_2).f0)) ∧ w'.cell? ⟨gbv1, 1, none⟩ = some (.int .i64 ((rd_T165 l0_2 x3_2).f1)) ∧ w'.cell? ⟨gbv1, 2, none⟩ = some (.int .i64 ((rd_T165 l0_2 x3_2).f2)) ∧ w'.cell? ⟨gbz1, 0, none⟩ = some (.int .i64 a0_0) ∧ w'.cell? ⟨gbz1, 1, none⟩ = some (.int .i64 a0_1) ∧ w'.cell? ⟨gbz1, 2, none⟩ = some (.slice (some adv1) l0_2.length c0_2) ∧ w'.cell? ⟨gbz1, 3, none⟩ = some (.int .i64 a0_3) ∧ w'.cell? ⟨gbz1, 4, none⟩ = some (.slice A0_4 l0_4.length c0_4) ∧ w'.cell? (adv1.add (((ji34)).toNat * 3)) = some (.int .i64 ((rd_T165 l0_2 (ji34)).f0)) ∧ w'.cell? ⟨(adv1.add (((ji34)).toNat * 3)).block, (adv1.add (((ji34)).toNat * 3)).off + 1, none⟩ = some (.int .i64 ((rd_T165 l0_2 (ji34)).f1)) ∧ w'.cell? ⟨(adv1.add (((ji34)).toNat * 3)).block, (adv1.add (((ji34)).toNat * 3)).off + 2, none⟩ = some (.int .i64 ((rd_T165 l0_2 (ji34)).f2))) (ds := []) (bm 32 0) (by kernel_rfl) rfl (by kernel_rfl) ⟨cK BKv1.out 0, cK BKv1.out 1, cK BKv1.out 2, cK BKz1.out 0, cK BKz1.out 1, cK BKz1.out 2, cK BKz1.out 3, cK BKz1.out 4, (bc HB.out hwv3 :), (bc HB.out hwv2 :), (bc HB.out hwv1 :)⟩ (fun hHeld => ?_); refine with_tabW spec_DescOk.tab9 spec_DescOk.bits9 (fun HT_ HW_ => ?_)
            generalize wv2.drew = wv3 at BKz1 BKv1 HB hxv4 hxv5 hxv6 hHeld ⊢
            refine pZ 0 58 (bm 32 1) HT_.out ?_
            refine tZ 1 59 (bm 32 3) HT_.out HW_.out hHeld ?_
            refine oZ 2 (some 60) (bm 32 7) HT_.out (fun K hK => ?_)
            refine goesN Tryz.func43 #[.int .i64 ((rd_T165 l0_2 x3_2).f0), .int .i64 0, .int .i64 19] ?_
            with_reducible refine (spec_l1In.calls _ _ _ _ _ A27.out).mono ?_
            rintro e w' ⟨rfl, ⟨nd, rfl⟩⟩
            refine ⟨_, rfl, ?_⟩
            refine hK.out _ _ ⟨cK BKv1.out 0, cK BKv1.out 1, cK BKv1.out 2, cK BKz1.out 0, cK BKz1.out 1, cK BKz1.out 2, cK BKz1.out 3, cK BKz1.out 4, (bc HB.out hwv3 :), (bc HB.out hwv2 :), (bc HB.out hwv1 :)⟩ (fun hHeld => ?_)
            clear hK K
            refine nZ 60 ?_
            refine pZ 3 61 (bm 32 15) HT_.out ?_
            refine pZ 4 62 (bm 32 31) HT_.out ?_
            refine pZ 5 63 (bm 32 63) HT_.out ?_
            refine tZ 6 64 (bm 32 127) HT_.out HW_.out hHeld ?_
            refine oZ 7 (some 65) (bm 32 255) HT_.out (fun K hK => ?_)
            refine goesN Tryz.func43 #[.int .i64 ((rd_T165 l0_2 x3_2).f1), .int .i64 0, .int .i64 1000] ?_
            with_reducible refine (spec_l1In.calls _ _ _ _ _ A29.out).mono ?_
            rintro e w' ⟨rfl, ⟨nd, rfl⟩⟩
            refine ⟨_, rfl, ?_⟩
            refine hK.out _ _ ⟨cK BKv1.out 0, cK BKv1.out 1, cK BKv1.out 2, cK BKz1.out 0, cK BKz1.out 1, cK BKz1.out 2, cK BKz1.out 3, cK BKz1.out 4, (bc HB.out hwv3 :), (bc HB.out hwv2 :), (bc HB.out hwv1 :)⟩ (fun hHeld => ?_)
            clear hK K
            refine nZ 65 ?_
            refine pZ 8 66 (bm 32 511) HT_.out ?_
            refine pZ 9 67 (bm 32 1023) HT_.out ?_
            refine pZ 10 68 (bm 32 2047) HT_.out ?_
            refine pZ 11 69 (bm 32 4095) HT_.out ?_
            refine tZ 12 70 (bm 32 8191) HT_.out HW_.out hHeld ?_
            refine oZ 13 (some 71) (bm 32 16383) HT_.out (fun K hK => ?_)
            refine goesN Tryz.func43 #[.int .i64 ((rd_T165 l0_2 x3_2).f2), .int .i64 0, .int .i64 1000] ?_
            with_reducible refine (spec_l1In.calls _ _ _ _ _ A31.out).mono ?_
            rintro e w' ⟨rfl, ⟨nd, rfl⟩⟩
            refine ⟨_, rfl, ?_⟩
            refine hK.out _ _ ⟨cK BKv1.out 0, cK BKv1.out 1, cK BKv1.out 2, cK BKz1.out 0, cK BKz1.out 1, cK BKz1.out 2, cK BKz1.out 3, cK BKz1.out 4, (bc HB.out hwv3 :), (bc HB.out hwv2 :), (bc HB.out hwv1 :)⟩ (fun hHeld => ?_)
            clear hK K
            refine nZ 71 ?_
            refine pZ 14 72 (bm 32 32767) HT_.out ?_
            refine pZ 15 73 (bm 32 65535) HT_.out ?_
            refine pZ 16 74 (bm 32 131071) HT_.out ?_
            refine pZ 17 75 (bm 32 262143) HT_.out ?_
            refine pZ 18 76 (bm 32 524287) HT_.out ?_
            refine pZ 19 77 (bm 32 1048575) HT_.out ?_
            refine pZ 20 78 (bm 32 2097151) HT_.out ?_
            refine pZ 22 80 (bm 32 6291455) HT_.out ?_
            refine pZ 23 81 (bm 32 14680063) HT_.out ?_
            refine pZ 27 85 (bm 32 148897791) HT_.out ?_
            refine tZ 21 79 (bm 32 150994943) HT_.out HW_.out hHeld ?_
            refine pZ 24 82 (bm 32 167772159) HT_.out ?_
            refine pZ 25 83 (bm 32 201326591) HT_.out ?_
            refine tZ 26 84 (bm 32 268435455) HT_.out HW_.out hHeld ?_
            refine tZ 28 86 (bm 32 536870911) HT_.out HW_.out hHeld ?_
            refine pZ 29 87 (bm 32 1073741823) HT_.out ?_
            refine pZ 30 88 (bm 32 2147483647) HT_.out ?_
            refine pZ 31 89 (bm 32 4294967295) HT_.out ?_
            refine done_ (done_of HT_.out (by kernel_rfl)) ?_
            try go_wp2
            go_ret
            exact ⟨by first | rfl | (simp [errW_none, errW_some] <;> rfl) | (simp only [← hji34]; first | rfl | (simp [errW_none, errW_some] <;> rfl)) | (simp [*, errW_none, errW_some] <;> rfl), (hX HB.out)⟩
          rw [if_neg c37] at H
          have c37b0 := decide_eq_false c37
          clear c37
          have H' := aM H
          clear H
          try go_wp2
          have nv1 : Aside0 ((((wv1.setCell ⟨gbv1, 0, none⟩ (.int .i64 ((rd_T165 l0_2 x3_2).f0))).setCell ⟨gbv1, 1, none⟩ (.int .i64 ((rd_T165 l0_2 x3_2).f1))).setCell ⟨gbv1, 2, none⟩ (.int .i64 ((rd_T165 l0_2 x3_2).f2))).heap[gbz1]? = some (.cells #[.int .i64 a0_0, .int .i64 a0_1, .slice (some adv1) l0_2.length c0_2, .int .i64 a0_3, .slice A0_4 l0_4.length c0_4] 162 (0, 0))) := ⟨(bF BKz1.out)⟩
          have nv2 : Aside0 ((((wv1.setCell ⟨gbv1, 0, none⟩ (.int .i64 ((rd_T165 l0_2 x3_2).f0))).setCell ⟨gbv1, 1, none⟩ (.int .i64 ((rd_T165 l0_2 x3_2).f1))).setCell ⟨gbv1, 2, none⟩ (.int .i64 ((rd_T165 l0_2 x3_2).f2))).heap[gbv1]? = some (.cells #[.int .i64 ((rd_T165 l0_2 x3_2).f0), .int .i64 ((rd_T165 l0_2 x3_2).f1), .int .i64 ((rd_T165 l0_2 x3_2).f2)] 165 (0, 0))) := ⟨(bP BKv1.out)⟩
          have nv3 : Aside0 (Below w.heap.size w (((wv1.setCell ⟨gbv1, 0, none⟩ (.int .i64 ((rd_T165 l0_2 x3_2).f0))).setCell ⟨gbv1, 1, none⟩ (.int .i64 ((rd_T165 l0_2 x3_2).f1))).setCell ⟨gbv1, 2, none⟩ (.int .i64 ((rd_T165 l0_2 x3_2).f2)))) := ⟨(hX HB.out)⟩
          (try clear BKz1)
          (try clear BKv1)
          (try clear HB)
          generalize (((wv1.setCell ⟨gbv1, 0, none⟩ (.int .i64 ((rd_T165 l0_2 x3_2).f0))).setCell ⟨gbv1, 1, none⟩ (.int .i64 ((rd_T165 l0_2 x3_2).f1))).setCell ⟨gbv1, 2, none⟩ (.int .i64 ((rd_T165 l0_2 x3_2).f2))) = wv2 at nv1 nv2 nv3 ⊢
          have BKz1 := nv1
          have BKv1 := nv2
          have HB := nv3
          clear nv1 nv2 nv3
          replace BKz1 := aM (blk_drew BKz1.out)
          replace BKv1 := aM (blk_drew BKv1.out)
          replace HB := aM (below_drew1 HB.out)
          have pv2 : 0 ≤ ((ji34) : Int) := odA
          have qv2 : (ji34) < (l0_2.length : Int) := odA
          obtain ⟨adv2, ev2, hxv4, hxv5, hxv6⟩ := at_T165 HR0_2.out (ji34) pv2 qv2
          have hwv1 := hxv6
          have hwv2 := hxv5
          have hwv3 := hxv4
          obtain rfl : adv1 = adv2 := (by injection ev2)
          replace hxv4 := bc HB.out hxv4
          replace hxv5 := bc HB.out hxv5
          replace hxv6 := bc HB.out hxv6
          replace pv2 := eq_true pv2
          replace qv2 := eq_true qv2
          refine start_ (n := 32) (S := fun w' => w'.cell? ⟨gbv1, 0, none⟩ = some (.int .i64 ((rd_T165 l0_2 x3_2).f0)) ∧ w'.cell? ⟨gbv1, 1, none⟩ = some (.int .i64 ((rd_T165 l0_2 x3_2).f1)) ∧ w'.cell? ⟨gbv1, 2, none⟩ = some (.int .i64 ((rd_T165 l0_2 x3_2).f2)) ∧ w'.cell? ⟨gbz1, 0, none⟩ = some (.int .i64 a0_0) ∧ w'.cell? ⟨gbz1, 1, none⟩ = some (.int .i64 a0_1) ∧ w'.cell? ⟨gbz1, 2, none⟩ = some (.slice (some adv1) l0_2.length c0_2) ∧ w'.cell? ⟨gbz1, 3, none⟩ = some (.int .i64 a0_3) ∧ w'.cell? ⟨gbz1, 4, none⟩ = some (.slice A0_4 l0_4.length c0_4) ∧ w'.cell? (adv1.add (((ji34)).toNat * 3)) = some (.int .i64 ((rd_T165 l0_2 (ji34)).f0)) ∧ w'.cell? ⟨(adv1.add (((ji34)).toNat * 3)).block, (adv1.add (((ji34)).toNat * 3)).off + 1, none⟩ = some (.int .i64 ((rd_T165 l0_2 (ji34)).f1)) ∧ w'.cell? ⟨(adv1.add (((ji34)).toNat * 3)).block, (adv1.add (((ji34)).toNat * 3)).off + 2, none⟩ = some (.int .i64 ((rd_T165 l0_2 (ji34)).f2))) (ds := []) (bm 32 0) (by kernel_rfl) rfl (by kernel_rfl) ⟨cK BKv1.out 0, cK BKv1.out 1, cK BKv1.out 2, cK BKz1.out 0, cK BKz1.out 1, cK BKz1.out 2, cK BKz1.out 3, cK BKz1.out 4, (bc HB.out hwv3 :), (bc HB.out hwv2 :), (bc HB.out hwv1 :)⟩ (fun hHeld => ?_); refine with_tabW spec_DescOk.tab9 spec_DescOk.bits9 (fun HT_ HW_ => ?_)
          generalize wv2.drew = wv3 at BKz1 BKv1 HB hxv4 hxv5 hxv6 hHeld ⊢
          refine pZ 0 58 (bm 32 1) HT_.out ?_
          refine tZ 1 59 (bm 32 3) HT_.out HW_.out hHeld ?_
          refine oZ 2 (some 60) (bm 32 7) HT_.out (fun K hK => ?_)
          refine goesN Tryz.func43 #[.int .i64 ((rd_T165 l0_2 x3_2).f0), .int .i64 0, .int .i64 19] ?_
          with_reducible refine (spec_l1In.calls _ _ _ _ _ A27.out).mono ?_
          rintro e w' ⟨rfl, ⟨nd, rfl⟩⟩
          refine ⟨_, rfl, ?_⟩
          refine hK.out _ _ ⟨cK BKv1.out 0, cK BKv1.out 1, cK BKv1.out 2, cK BKz1.out 0, cK BKz1.out 1, cK BKz1.out 2, cK BKz1.out 3, cK BKz1.out 4, (bc HB.out hwv3 :), (bc HB.out hwv2 :), (bc HB.out hwv1 :)⟩ (fun hHeld => ?_)
          clear hK K
          refine nZ 60 ?_
          refine pZ 3 61 (bm 32 15) HT_.out ?_
          refine pZ 4 62 (bm 32 31) HT_.out ?_
          refine pZ 5 63 (bm 32 63) HT_.out ?_
          refine tZ 6 64 (bm 32 127) HT_.out HW_.out hHeld ?_
          refine oZ 7 (some 65) (bm 32 255) HT_.out (fun K hK => ?_)
          refine goesN Tryz.func43 #[.int .i64 ((rd_T165 l0_2 x3_2).f1), .int .i64 0, .int .i64 1000] ?_
          with_reducible refine (spec_l1In.calls _ _ _ _ _ A29.out).mono ?_
          rintro e w' ⟨rfl, ⟨nd, rfl⟩⟩
          refine ⟨_, rfl, ?_⟩
          refine hK.out _ _ ⟨cK BKv1.out 0, cK BKv1.out 1, cK BKv1.out 2, cK BKz1.out 0, cK BKz1.out 1, cK BKz1.out 2, cK BKz1.out 3, cK BKz1.out 4, (bc HB.out hwv3 :), (bc HB.out hwv2 :), (bc HB.out hwv1 :)⟩ (fun hHeld => ?_)
          clear hK K
          refine nZ 65 ?_
          refine pZ 8 66 (bm 32 511) HT_.out ?_
          refine pZ 9 67 (bm 32 1023) HT_.out ?_
          refine pZ 10 68 (bm 32 2047) HT_.out ?_
          refine pZ 11 69 (bm 32 4095) HT_.out ?_
          refine tZ 12 70 (bm 32 8191) HT_.out HW_.out hHeld ?_
          refine oZ 13 (some 71) (bm 32 16383) HT_.out (fun K hK => ?_)
          refine goesN Tryz.func43 #[.int .i64 ((rd_T165 l0_2 x3_2).f2), .int .i64 0, .int .i64 1000] ?_
          with_reducible refine (spec_l1In.calls _ _ _ _ _ A31.out).mono ?_
          rintro e w' ⟨rfl, ⟨nd, rfl⟩⟩
          refine ⟨_, rfl, ?_⟩
          refine hK.out _ _ ⟨cK BKv1.out 0, cK BKv1.out 1, cK BKv1.out 2, cK BKz1.out 0, cK BKz1.out 1, cK BKz1.out 2, cK BKz1.out 3, cK BKz1.out 4, (bc HB.out hwv3 :), (bc HB.out hwv2 :), (bc HB.out hwv1 :)⟩ (fun hHeld => ?_)
          clear hK K
          refine nZ 71 ?_
          refine pZ 14 72 (bm 32 32767) HT_.out ?_
          refine pZ 15 73 (bm 32 65535) HT_.out ?_
          refine pZ 16 74 (bm 32 131071) HT_.out ?_
          refine pZ 17 75 (bm 32 262143) HT_.out ?_
          refine pZ 18 76 (bm 32 524287) HT_.out ?_
          refine pZ 19 77 (bm 32 1048575) HT_.out ?_
          refine pZ 20 78 (bm 32 2097151) HT_.out ?_
          refine pZ 22 80 (bm 32 6291455) HT_.out ?_
          refine pZ 23 81 (bm 32 14680063) HT_.out ?_
          refine pZ 27 85 (bm 32 148897791) HT_.out ?_
          refine tZ 21 79 (bm 32 150994943) HT_.out HW_.out hHeld ?_
          refine pZ 24 82 (bm 32 167772159) HT_.out ?_
          refine pZ 25 83 (bm 32 201326591) HT_.out ?_
          refine tZ 26 84 (bm 32 268435455) HT_.out HW_.out hHeld ?_
          refine tZ 28 86 (bm 32 536870911) HT_.out HW_.out hHeld ?_
          refine pZ 29 87 (bm 32 1073741823) HT_.out ?_
          refine pZ 30 88 (bm 32 2147483647) HT_.out ?_
          refine pZ 31 89 (bm 32 4294967295) HT_.out ?_
          refine done_ (done_of HT_.out (by kernel_rfl)) ?_
          try go_wp2
          go_roundg k2
          case measure => have := HJy1.out; have := HKw1.out; omega
          case rel => exact ⟨(wrap64 (x3_2 + 1)), rS, H', ⟨by have := HJy1.out; have := HKw1.out; omega⟩, ⟨(bX BKz1.out)⟩, ⟨(hX HB.out)⟩⟩
def spec_WordOk.f (a0_0 : Int) (a0_1 : Int) (a0_2 : Int) (a1 : Int) : Option (Bool) := if a0_1 = 0 then (if a0_2 = 0 then ((spec_l1In.f a0_0 0 1000).bind fun t102 => (some t102)) else (some false)) else (if a0_0 = 0 then ((spec_l1In.f a0_1 1 a1).bind fun t103 => (if t103 = true then ((spec_l1In.f a0_2 1 1000000).bind fun t104 => (some t104)) else (some false))) else (some false))
set_option maxHeartbeats 8000000 in
set_option maxRecDepth 100000 in
theorem spec_WordOk.calls (a0_0 : Int) (a0_1 : Int) (a0_2 : Int) (a1 : Int) (r : Bool) (w : World) (h : spec_WordOk.f a0_0 a0_1 a0_2 a1 = some r) :
    Calls Tryz.prog 157 #[.agg #[.int .i64 a0_0, .int .i64 a0_1, .int .i64 a0_2], .int .i64 a1] w fun e w' => e = .returned (.bool r) ∧ Below w.heap.size w w' := by
  have hu140 := Tryz.underlying140
  have HB := aM (Below.refl w.heap.size w)
  have H := h
  unfold spec_WordOk.f at H
  clear h
  go_enter Tryz.func157, Tryz.ntmps157
  go_wp2_with (first | (refine boxE 2 #[.int .i64 a0_0, .int .i64 a0_1, .int .i64 a0_2] 140 ?_; intro gbz1 hg wz1 hbox hb; have BKz1 := aM (hbox); have GWz1 := aG hg HB; have GEz1 := aG hg HB; replace HB := aS HB hb; clear hb hbox hg; obtain ⟨hczz1, hczz2, hczz3, hfzz1, hfzz2, hfzz3⟩ := cZ3 BKz1.out; refine Stop.out ?_))
  refine ⟨?_⟩
  by_cases c3 : a0_1 = 0
  · rw [if_pos c3] at H
    obtain ⟨c3b0, c3b1⟩ := eqT c3
    clear c3
    by_cases c4 : a0_2 = 0
    case neg =>
      rw [if_neg c4] at H
      obtain ⟨c4b0, c4b1⟩ := eqF c4
      obtain rfl := sI H
      go_wp2
      go_ret
      exact ⟨rE, (hX HB.out)⟩
    rw [if_pos c4] at H
    obtain ⟨c4b0, c4b1⟩ := eqT c4
    clear c4
    replace H := bE H; obtain ⟨t102, A5, H⟩ := H
    obtain rfl := sI H
    go_wp2_with (first | (go_at_call 43; (with_reducible refine (spec_l1In.calls _ _ _ _ _ A5.out).mono ?_); rintro e w' ⟨rfl, ⟨nd, rfl⟩⟩))
    go_ret
    exact ⟨rE, (hX HB.out)⟩
  rw [if_neg c3] at H
  obtain ⟨c3b0, c3b1⟩ := eqF c3
  by_cases c10 : a0_0 = 0
  case neg =>
    rw [if_neg c10] at H
    obtain ⟨c10b0, c10b1⟩ := eqF c10
    obtain rfl := sI H
    go_wp2
    go_ret
    exact ⟨rE, (hX HB.out)⟩
  rw [if_pos c10] at H
  obtain ⟨c10b0, c10b1⟩ := eqT c10
  clear c10
  replace H := bE H; obtain ⟨t103, A11, H⟩ := H
  by_cases c12 : t103 = true
  case neg =>
    replace c12 := Bool.eq_false_iff.mpr c12
    subst c12
    rw [if_neg nft] at H
    obtain rfl := sI H
    go_wp2_with (first | (go_at_call 43; (with_reducible refine (spec_l1In.calls _ _ _ _ _ A11.out).mono ?_); rintro e w' ⟨rfl, ⟨nd, rfl⟩⟩))
    go_ret
    exact ⟨rE, (hX HB.out)⟩
  subst c12
  rw [if_pos rfl] at H
  replace H := bE H; obtain ⟨t104, A13, H⟩ := H
  obtain rfl := sI H
  go_wp2_with (first | (go_at_call 43; (with_reducible refine (spec_l1In.calls _ _ _ _ _ A11.out).mono ?_); rintro e w' ⟨rfl, ⟨nd, rfl⟩⟩) | (go_at_call 43; (with_reducible refine (spec_l1In.calls _ _ _ _ _ A13.out).mono ?_); rintro e w' ⟨rfl, ⟨nd, rfl⟩⟩))
  go_ret
  exact ⟨rE, (hX HB.out)⟩
def spec_Entries.l0 : Nat → Int → Int → Int → Int → List (S165) → Int → List Int → Option (Int × Int × Int × Bool)
  | 0, _, _, _, _, _, _, _ => none
  | k + 1, x1, x6, x102000, x102001, x102002, x102003, x102004 => if x6 < (x102002.length : Int) then (if 0 ≤ x6 then (if ((rd_T165 x102002 x6).f0) = x1 then (some ((rd_T165 x102002 x6).f0, (rd_T165 x102002 x6).f1, (rd_T165 x102002 x6).f2, true)) else (spec_Entries.l0 k x1 (wrap64 (x6 + 1)) x102000 x102001 x102002 x102003 x102004)) else (none)) else (some (0, 0, 0, false))
def spec_Entries.f (k : Nat) (a0_0 : Int) (a0_1 : Int) (l0_2 : List (S165)) (a0_3 : Int) (l0_4 : List Int) (a1 : Int) : Option (Int × Int × Int × Bool) := spec_Entries.l0 k a1 0 a0_0 a0_1 l0_2 a0_3 l0_4
set_option maxHeartbeats 8000000 in
set_option maxRecDepth 100000 in
theorem spec_Entries.calls (k : Nat) (a0_0 : Int) (a0_1 : Int) (A0_2 : Option Addr) (c0_2 : Nat) (l0_2 : List (S165)) (a0_3 : Int) (A0_4 : Option Addr) (c0_4 : Nat) (l0_4 : List Int) (a1 : Int) (r1 : Int) (r2 : Int) (r3 : Int) (r4 : Bool) (w : World) (hr0_2 : Kd.C k165 w A0_2 l0_2.length l0_2) (hc0_2 : l0_2.length ≤ c0_2) (hr0_4 : Kd.C (Kd.int .i64) w A0_4 l0_4.length l0_4) (hc0_4 : l0_4.length ≤ c0_4) (h : spec_Entries.f k a0_0 a0_1 l0_2 a0_3 l0_4 a1 = some (r1, r2, r3, r4)) :
    Calls Tryz.prog 158 #[.agg #[.int .i64 a0_0, .int .i64 a0_1, .slice A0_2 l0_2.length c0_2, .int .i64 a0_3, .slice A0_4 l0_4.length c0_4], .int .i64 a1] w fun e w' => e = .returned (.tuple #[.agg #[.int .i64 r1, .int .i64 r2, .int .i64 r3], .bool r4]) ∧ Below w.heap.size w w' := by
  have hu162 := Tryz.underlying162
  have hu165 := Tryz.underlying165
  have HR0_2 := aM hr0_2
  have HC0_2 := aM hc0_2
  clear hr0_2 hc0_2
  have HR0_4 := aM hr0_4
  have HC0_4 := aM hc0_4
  clear hr0_4 hc0_4
  have HB := aM (Below.refl w.heap.size w)
  have H := h
  unfold spec_Entries.f at H
  clear h
  have H' := aM H
  clear H
  go_enter Tryz.func158, Tryz.ntmps158
  go_wp2_with (first | (refine boxE 2 #[.int .i64 a0_0, .int .i64 a0_1, .slice A0_2 l0_2.length c0_2, .int .i64 a0_3, .slice A0_4 l0_4.length c0_4] 162 ?_; intro gbz1 hg wz1 hbox hb; have BKz1 := aM (hbox); have GWz1 := aG hg HB; have GEz1 := aG hg HB; replace HB := aS HB hb; clear hb hbox hg) | (refine boxE 4 #[.int .i64 0, .int .i64 0, .int .i64 0] 165 ?_; intro gbz2 hg wz2 hbox hb; have BKz2 := aM (hbox); have GWz2 := aG hg HB; have GEz2 := aG hg HB; have NBz1 := aL hg BKz1; have NBz2 := aR hg BKz1; replace BKz1 := aB BKz1 hb; replace HB := aS HB hb; clear hb hbox hg))
  go_loopg [6] k (fun kq v6 w' => ∃ (x6_1 : Int) (x103000_1 : Int) (x103001_1 : Int) (x103002_1 : Int), v6 = .int .i64 x6_1 ∧ Aside0 (spec_Entries.l0 kq a1 x6_1 a0_0 a0_1 l0_2 a0_3 l0_4 = some (r1, r2, r3, r4)) ∧ Aside0 (kq ≤ k) ∧ Aside0 (w'.heap[gbz1]? = some (.cells #[.int .i64 a0_0, .int .i64 a0_1, (.slice A0_2 l0_2.length c0_2), .int .i64 a0_3, (.slice A0_4 l0_4.length c0_4)] 162 (0, 0))) ∧ Aside0 (w'.heap[gbz2]? = some (.cells #[.int .i64 x103000_1, .int .i64 x103001_1, .int .i64 x103002_1] 165 (0, 0))) ∧ Aside0 (Below w.heap.size w w'))
  case atStart => exact ⟨(0), (0), (0), (0), rS, H', ⟨Nat.le_refl _⟩, ⟨(bX BKz1.out)⟩, ⟨(bX BKz2.out)⟩, ⟨(hX HB.out)⟩⟩
  case round =>
    clear H'
    try clear p2
    obtain ⟨x6_1, x103000_1, x103001_1, x103002_1, rfl, HA, HKy1, BKz1, BKz2, HB⟩ := hrel
    cases gk with
    | zero => exact absurd HA.out (by simp [spec_Entries.l0])
    | succ k1 =>
      have H := HA.out
      clear HA
      simp only [spec_Entries.l0] at H
      by_cases c5 : x6_1 < (l0_2.length : Int)
      case neg =>
        rw [if_neg c5] at H
        have c5b0 := decide_eq_false c5
        clear c5
        simp only [Option.some.injEq, Prod.mk.injEq] at H
        obtain ⟨rfl, rfl, rfl, rfl⟩ := H
        have hnbx1 := NBz1.out
        have hncx1 := NBz2.out
        obtain ⟨hczx1, hczx2, hczx3, hczx4, hczx5, hfzx1, hfzx2, hfzx3, hfzx4, hfzx5⟩ := cZ5 BKz1.out
        obtain ⟨hczx6, hczx7, hczx8, hfzx6, hfzx7, hfzx8⟩ := cZ3 BKz2.out
        go_wp2
        refine bodyPost_ret (results_ct rfl _ _ gbz2 165 #[.int .i64 0, .int .i64 0, .int .i64 0] (0, 0) _ rfl (bP BKz2.out) Tryz.underlying165 rfl (by kernel_rfl)) rfl ?_
        exact ⟨rE, (hX HB.out)⟩
      rw [if_pos c5] at H
      have c5b0 := decide_eq_true c5
      clear c5
      replace H := ifP H; obtain ⟨c6, H⟩ := H
      have c6b0 := decide_eq_true c6
      clear c6
      by_cases c7 : ((rd_T165 l0_2 x6_1).f0) = a1
      case neg =>
        rw [if_neg c7] at H
        obtain ⟨c7b0, c7b1⟩ := eqF c7
        have H' := aM H
        clear H
        have hnbx1 := NBz1.out
        have hncx1 := NBz2.out
        obtain ⟨hczx1, hczx2, hczx3, hczx4, hczx5, hfzx1, hfzx2, hfzx3, hfzx4, hfzx5⟩ := cZ5 BKz1.out
        have px1 : 0 ≤ (x6_1 : Int) := odA
        have qx1 : x6_1 < (l0_2.length : Int) := odA
        obtain ⟨adx1, ex1, hxx1, hxx2, hxx3⟩ := at_T165b HR0_2.out HB.out x6_1 px1 qx1
        cases ex1
        replace px1 := eq_true px1
        replace qx1 := eq_true qx1
        go_wp2
        go_roundg k1
        case measure => have := HKy1.out; omega
        case rel => exact ⟨(wrap64 (x6_1 + 1)), (x103000_1), (x103001_1), (x103002_1), rS, H', ⟨by have := HKy1.out; omega⟩, ⟨(bX BKz1.out)⟩, ⟨(bX BKz2.out)⟩, ⟨(hX HB.out)⟩⟩
      rw [if_pos c7] at H
      obtain ⟨c7b0, c7b1⟩ := eqT c7
      clear c7
      simp only [Option.some.injEq, Prod.mk.injEq] at H
      obtain ⟨rfl, rfl, rfl, rfl⟩ := H
      have hnbx1 := NBz1.out
      have hncx1 := NBz2.out
      obtain ⟨hczx1, hczx2, hczx3, hczx4, hczx5, hfzx1, hfzx2, hfzx3, hfzx4, hfzx5⟩ := cZ5 BKz1.out
      have px1 : 0 ≤ (x6_1 : Int) := odA
      have qx1 : x6_1 < (l0_2.length : Int) := odA
      obtain ⟨adx1, ex1, hxx1, hxx2, hxx3⟩ := at_T165b HR0_2.out HB.out x6_1 px1 qx1
      cases ex1
      replace px1 := eq_true px1
      replace qx1 := eq_true qx1
      have px2 : 0 ≤ (x6_1 : Int) := odA
      have qx2 : x6_1 < (l0_2.length : Int) := odA
      obtain ⟨adx2, ex2, hxx4, hxx5, hxx6⟩ := at_T165b HR0_2.out HB.out x6_1 px2 qx2
      obtain rfl : adx1 = adx2 := (by injection ex2)
      replace px2 := eq_true px2
      replace qx2 := eq_true qx2
      obtain ⟨hczx6, hczx7, hczx8, hfzx6, hfzx7, hfzx8⟩ := cZ3 BKz2.out
      go_wp2
      refine bodyPost_ret (results_ct rfl _ _ gbz2 165 #[.int .i64 ((rd_T165 l0_2 x6_1).f0), .int .i64 ((rd_T165 l0_2 x6_1).f1), .int .i64 ((rd_T165 l0_2 x6_1).f2)] (0, 0) _ rfl (bP BKz2.out) Tryz.underlying165 rfl (by kernel_rfl)) rfl ?_
      exact ⟨rE, (hX HB.out)⟩
mutual
def spec_MemOk.j0 : Nat → Bool → List (S140) → List (S162) → Option (Bool)
  | 0, _, _, _ => none
  | k + 1, x18, x102000, x102001 => if x18 = true then (some false) else (spec_MemOk.l0 k 0 x102000 x102001)
def spec_MemOk.l0 : Nat → Int → List (S140) → List (S162) → Option (Bool)
  | 0, _, _, _ => none
  | k + 1, x3, x102000, x102001 => if x3 < (x102001.length : Int) then (if 0 ≤ x3 then ((spec_DescOk.f k ((rd_T162 x102001 x3).f0) ((rd_T162 x102001 x3).f1) ((rd_T162 x102001 x3).f2) ((rd_T162 x102001 x3).f3.f0) ((rd_T162 x102001 x3).f3.f1)).bind fun t104 => (if t104 = true then (spec_MemOk.l0 k (wrap64 (x3 + 1)) x102000 x102001) else (some false))) else (none)) else (spec_MemOk.l1 k 0 x102000 x102001)
def spec_MemOk.l1 : Nat → Int → List (S140) → List (S162) → Option (Bool)
  | 0, _, _, _ => none
  | k + 1, x4, x102000, x102001 => if x4 < (x102000.length : Int) then (if 0 ≤ x4 then ((spec_WordOk.f ((rd_T140 x102000 x4).f0) ((rd_T140 x102000 x4).f1) ((rd_T140 x102000 x4).f2) (x102001.length : Int)).bind fun t107 => (if t107 = true then (if ((rd_T140 x102000 x4).f1) > 0 then (if 0 ≤ (wrap64 (((rd_T140 x102000 x4).f1) - 1)) then (if (wrap64 (((rd_T140 x102000 x4).f1) - 1)) < (x102001.length : Int) then ((spec_Entries.f k ((rd_T162 x102001 (wrap64 (((rd_T140 x102000 x4).f1) - 1))).f0) ((rd_T162 x102001 (wrap64 (((rd_T140 x102000 x4).f1) - 1))).f1) ((rd_T162 x102001 (wrap64 (((rd_T140 x102000 x4).f1) - 1))).f2) ((rd_T162 x102001 (wrap64 (((rd_T140 x102000 x4).f1) - 1))).f3.f0) ((rd_T162 x102001 (wrap64 (((rd_T140 x102000 x4).f1) - 1))).f3.f1) x4).bind fun bt109 => (if bt109.2.2.2 = true then (if ((rd_T162 x102001 (wrap64 (((rd_T140 x102000 x4).f1) - 1))).f0) = ((rd_T140 x102000 x4).f2) then (spec_MemOk.l1 k (wrap64 (x4 + 1)) x102000 x102001) else (some false)) else (some false))) else (none)) else (none)) else (spec_MemOk.l1 k (wrap64 (x4 + 1)) x102000 x102001)) else (some false))) else (none)) else (some true)
end
def spec_MemOk.f (k : Nat) (l0_0 : List (S140)) (l0_1 : List (S162)) : Option (Bool) := if (l0_0.length : Int) = 20 then ((spec_l1In.f (l0_1.length : Int) 1 4).bind fun t102 => (spec_MemOk.j0 k (!t102) l0_0 l0_1)) else (spec_MemOk.j0 k true l0_0 l0_1)
set_option maxHeartbeats 8000000 in
set_option maxRecDepth 100000 in
theorem spec_MemOk.calls (k : Nat) (A0_0 : Option Addr) (c0_0 : Nat) (l0_0 : List (S140)) (A0_1 : Option Addr) (c0_1 : Nat) (l0_1 : List (S162)) (r : Bool) (w : World) (hr0_0 : Kd.C k140 w A0_0 l0_0.length l0_0) (hc0_0 : l0_0.length ≤ c0_0) (hr0_1 : Kd.C k162 w A0_1 l0_1.length l0_1) (hc0_1 : l0_1.length ≤ c0_1) (h : spec_MemOk.f k l0_0 l0_1 = some r) :
    Calls Tryz.prog 92 #[.agg #[.slice A0_0 l0_0.length c0_0, .slice A0_1 l0_1.length c0_1]] w fun e w' => e = .returned (.bool r) ∧ Below w.heap.size w w' := by
  have hu38 := Tryz.underlying38
  have hu162 := Tryz.underlying162
  have hu140 := Tryz.underlying140
  have hu165 := Tryz.underlying165
  have HR0_0 := aM hr0_0
  have HC0_0 := aM hc0_0
  clear hr0_0 hc0_0
  have HR0_1 := aM hr0_1
  have HC0_1 := aM hc0_1
  clear hr0_1 hc0_1
  have HB := aM (Below.refl w.heap.size w)
  have H := h
  unfold spec_MemOk.f at H
  clear h
  have HC2 := aM H
  clear H
  go_enter Tryz.func92, Tryz.ntmps92
  go_upto_region 1 with (first | ((with_reducible refine gate_dst (N := 1) rfl ?_); (try (refine gate_guard (by rfl) ?_; dsimp only)); refine boxF 1 #[.slice A0_0 l0_0.length c0_0, .slice A0_1 l0_1.length c0_1] 38 ?_; intro gbz1 hg wz1 hbox hb; have BKz1 := aM (hbox); have GWz1 := aG hg HB; have GEz1 := aG hg HB; replace HB := aS HB hb; clear hb hbox hg))
  repeat (go_quiet (fail); go_upto_region 1 with (first | ((with_reducible refine gate_dst (N := 1) rfl ?_); (try (refine gate_guard (by rfl) ?_; dsimp only)); refine boxF 1 #[.slice A0_0 l0_0.length c0_0, .slice A0_1 l0_1.length c0_1] 38 ?_; intro gbz1 hg wz1 hbox hb; have BKz1 := aM (hbox); have GWz1 := aG hg HB; have GEz1 := aG hg HB; replace HB := aS HB hb; clear hb hbox hg)))
  (try simp only [Act.put, List.setIfInBounds_toArray, List.set_cons_zero, List.set_cons_succ])
  go_cut [18] (fun vz1 wc => ∃ (kq : Nat) (x18_1 : Bool), vz1 = .bool x18_1 ∧ Aside0 (spec_MemOk.j0 kq x18_1 l0_0 l0_1 = some r) ∧ Aside0 (kq ≤ k) ∧ Aside0 (wc.heap[gbz1]? = some (.cells #[(.slice A0_0 l0_0.length c0_0), (.slice A0_1 l0_1.length c0_1)] 38 (0, 0))) ∧ Aside0 (Below w.heap.size w wc))
  case first =>
    have H := HC2.out
    clear HC2
    by_cases c4 : (l0_0.length : Int) = 20
    case neg =>
      rw [if_neg c4] at H
      obtain ⟨c4b0, c4b1⟩ := eqF c4
      (first | rw [c4b0] | (simp only [i64_w, i32_w]; rw [c4b0]) | skip)
      have H' := aM H
      clear H
      obtain ⟨hczy1, hczy2, hfzy1, hfzy2⟩ := cZ2 BKz1.out
      go_wp2
      repeat (go_quiet (fail); try go_wp2)
      go_meet
      case rel => exact ⟨_, (true), rS, H', ⟨by first | omega | exact Nat.le_refl _⟩, ⟨(bX BKz1.out)⟩, ⟨(hX HB.out)⟩⟩
    rw [if_pos c4] at H
    obtain ⟨c4b0, c4b1⟩ := eqT c4
    clear c4
    (first | rw [c4b0] | (simp only [i64_w, i32_w]; rw [c4b0]) | skip)
    replace H := bE H; obtain ⟨t102, A5, H⟩ := H
    have H' := aM H
    clear H
    obtain ⟨hczy1, hczy2, hfzy1, hfzy2⟩ := cZ2 BKz1.out
    go_wp2_with (first | (go_at_call 43; (with_reducible refine (spec_l1In.calls _ _ _ _ _ A5.out).mono ?_); rintro e w' ⟨rfl, ⟨nd, rfl⟩⟩; (try first | exact ⟨rfl, _, World.drewN_drewN _ _ _⟩ | exact ⟨rfl, _, Eq.trans (World.drewN_drewN _ _ _) (congrArg (World.drewN _) (Nat.add_assoc _ _ _))⟩)))
    repeat (go_quiet (fail); try go_wp2_with (first | (go_at_call 43; (with_reducible refine (spec_l1In.calls _ _ _ _ _ A5.out).mono ?_); rintro e w' ⟨rfl, ⟨nd, rfl⟩⟩; (try first | exact ⟨rfl, _, World.drewN_drewN _ _ _⟩ | exact ⟨rfl, _, Eq.trans (World.drewN_drewN _ _ _) (congrArg (World.drewN _) (Nat.add_assoc _ _ _))⟩))))
    go_meet
    case rel => exact ⟨_, (!t102), rS, H', ⟨by first | omega | exact Nat.le_refl _⟩, ⟨(bX BKz1.out)⟩, ⟨(hX HB.out)⟩⟩
  case rest =>
    clear HC2
    try clear p2
    obtain ⟨kq, x18_1, rfl, HA, HJy1, BKz1, HB⟩ := hcut
    cases kq with
    | zero => exact absurd HA.out (by simp [spec_MemOk.j0])
    | succ kj1 =>
      have H := HA.out
      clear HA
      simp only [spec_MemOk.j0] at H
      by_cases c8 : x18_1 = true
      · subst c8
        rw [if_pos rfl] at H
        obtain rfl := sI H
        go_wp2
        repeat (go_quiet (fail); try go_wp2)
        go_ret
        exact ⟨rE, (hX HB.out)⟩
      replace c8 := Bool.eq_false_iff.mpr c8
      subst c8
      rw [if_neg nft] at H
      have H' := aM H
      clear H
      go_wp2
      repeat (go_quiet (fail); try go_wp2)
      go_loopg [3] kj1 (fun kq v3 w' => ∃ (x3_2 : Int), v3 = .int .i64 x3_2 ∧ Aside0 (spec_MemOk.l0 kq x3_2 l0_0 l0_1 = some r) ∧ Aside0 (kq ≤ kj1) ∧ Aside0 (w'.heap[gbz1]? = some (.cells #[(.slice A0_0 l0_0.length c0_0), (.slice A0_1 l0_1.length c0_1)] 38 (0, 0))) ∧ Aside0 (Below w.heap.size w w'))
      case atStart => exact ⟨(0), rS, H', ⟨Nat.le_refl _⟩, ⟨(bX BKz1.out)⟩, ⟨(hX HB.out)⟩⟩
      case round =>
        clear H'
        try clear p2
        try clear c8
        obtain ⟨x3_2, rfl, HA, HKw1, BKz1, HB⟩ := hrel
        cases gk with
        | zero => exact absurd HA.out (by simp [spec_MemOk.l0])
        | succ k2 =>
          have H := HA.out
          clear HA
          simp only [spec_MemOk.l0] at H
          by_cases c9 : x3_2 < (l0_1.length : Int)
          · rw [if_pos c9] at H
            have c9b0 := decide_eq_true c9
            clear c9
            replace H := ifP H; obtain ⟨c10, H⟩ := H
            have c10b0 := decide_eq_true c10
            clear c10
            replace H := bE H; obtain ⟨t104, A11, H⟩ := H
            by_cases c12 : t104 = true
            case neg =>
              replace c12 := Bool.eq_false_iff.mpr c12
              subst c12
              rw [if_neg nft] at H
              obtain rfl := sI H
              obtain ⟨hczv1, hczv2, hfzv1, hfzv2⟩ := cZ2 BKz1.out
              have pv1 : 0 ≤ (x3_2 : Int) := odA
              have qv1 : x3_2 < (l0_1.length : Int) := odA
              obtain ⟨adv1, Av1, cv1, Av2, cv2, ev1, hxv1, hxv2, hxv3, hxv4, hxv5, hlv1, hiv1, hlv2, hiv2⟩ := at_T162b HR0_1.out HB.out x3_2 pv1 qv1
              cases ev1
              have HRv1 := aM hiv1
              have HCv1 := aM hlv1
              clear hiv1 hlv1
              have HRv2 := aM hiv2
              have HCv2 := aM hlv2
              clear hiv2 hlv2
              replace pv1 := eq_true pv1
              replace qv1 := eq_true qv1
              go_wp2_with (first | (go_at_call 156; (with_reducible refine (spec_DescOk.calls _ _ _ _ _ _ _ _ _ _ _ _ (cC HRv1.out HB.out) HCv1.out (cC HRv2.out HB.out) HCv2.out A11.out).mono ?_); rintro e wv1 ⟨rfl, hb⟩; replace BKz1 := aB BKz1 hb; replace HB := aS HB hb; clear hb))
              repeat (go_quiet (fail); try go_wp2_with (first | (go_at_call 156; (with_reducible refine (spec_DescOk.calls _ _ _ _ _ _ _ _ _ _ _ _ (cC HRv1.out HB.out) HCv1.out (cC HRv2.out HB.out) HCv2.out A11.out).mono ?_); rintro e wv1 ⟨rfl, hb⟩; replace BKz1 := aB BKz1 hb; replace HB := aS HB hb; clear hb)))
              go_ret
              exact ⟨rE, (hX HB.out)⟩
            subst c12
            rw [if_pos rfl] at H
            have H' := aM H
            clear H
            obtain ⟨hczv1, hczv2, hfzv1, hfzv2⟩ := cZ2 BKz1.out
            have pv1 : 0 ≤ (x3_2 : Int) := odA
            have qv1 : x3_2 < (l0_1.length : Int) := odA
            obtain ⟨adv1, Av1, cv1, Av2, cv2, ev1, hxv1, hxv2, hxv3, hxv4, hxv5, hlv1, hiv1, hlv2, hiv2⟩ := at_T162b HR0_1.out HB.out x3_2 pv1 qv1
            cases ev1
            have HRv1 := aM hiv1
            have HCv1 := aM hlv1
            clear hiv1 hlv1
            have HRv2 := aM hiv2
            have HCv2 := aM hlv2
            clear hiv2 hlv2
            replace pv1 := eq_true pv1
            replace qv1 := eq_true qv1
            go_wp2_with (first | (go_at_call 156; (with_reducible refine (spec_DescOk.calls _ _ _ _ _ _ _ _ _ _ _ _ (cC HRv1.out HB.out) HCv1.out (cC HRv2.out HB.out) HCv2.out A11.out).mono ?_); rintro e wv1 ⟨rfl, hb⟩; replace BKz1 := aB BKz1 hb; replace HB := aS HB hb; clear hb))
            repeat (go_quiet (fail); try go_wp2_with (first | (go_at_call 156; (with_reducible refine (spec_DescOk.calls _ _ _ _ _ _ _ _ _ _ _ _ (cC HRv1.out HB.out) HCv1.out (cC HRv2.out HB.out) HCv2.out A11.out).mono ?_); rintro e wv1 ⟨rfl, hb⟩; replace BKz1 := aB BKz1 hb; replace HB := aS HB hb; clear hb)))
            go_roundg k2
            case measure => have := HJy1.out; have := HKw1.out; omega
            case rel => exact ⟨(wrap64 (x3_2 + 1)), rS, H', ⟨by have := HJy1.out; have := HKw1.out; omega⟩, ⟨(bX BKz1.out)⟩, ⟨(hX HB.out)⟩⟩
          rw [if_neg c9] at H
          have c9b0 := decide_eq_false c9
          clear c9
          have H' := aM H
          clear H
          obtain ⟨hczv1, hczv2, hfzv1, hfzv2⟩ := cZ2 BKz1.out
          go_wp2
          repeat (go_quiet (fail); try go_wp2)
          go_loopg [4] k2 (fun kq v4 w' => ∃ (x4_3 : Int), v4 = .int .i64 x4_3 ∧ Aside0 (spec_MemOk.l1 kq x4_3 l0_0 l0_1 = some r) ∧ Aside0 (kq ≤ k2) ∧ Aside0 (w'.heap[gbz1]? = some (.cells #[(.slice A0_0 l0_0.length c0_0), (.slice A0_1 l0_1.length c0_1)] 38 (0, 0))) ∧ Aside0 (Below w.heap.size w w'))
          case atStart => exact ⟨(0), rS, H', ⟨Nat.le_refl _⟩, ⟨(bX BKz1.out)⟩, ⟨(hX HB.out)⟩⟩
          case round =>
            clear H'
            try clear p1
            try clear q1
            try clear hx1
            try clear p2
            try clear p6
            try clear c8
            try clear c9
            try clear c9b0
            try clear p10
            try clear q10
            try clear hx10
            try clear hczv1 hczv2 hfzv1 hfzv2
            try clear hx103_0
            try clear hx103_1
            try clear hx103_2
            try clear hx103_3
            try clear hx103_4
            try clear p103
            try clear q103
            obtain ⟨x4_3, rfl, HA, HKu1, BKz1, HB⟩ := hrel
            cases gk with
            | zero => exact absurd HA.out (by simp [spec_MemOk.l1])
            | succ k3 =>
              have H := HA.out
              clear HA
              simp only [spec_MemOk.l1] at H
              by_cases c18 : x4_3 < (l0_0.length : Int)
              case neg =>
                rw [if_neg c18] at H
                have c18b0 := decide_eq_false c18
                clear c18
                obtain rfl := sI H
                obtain ⟨hczt1, hczt2, hfzt1, hfzt2⟩ := cZ2 BKz1.out
                go_wp2
                repeat (go_quiet (fail); try go_wp2)
                go_ret
                exact ⟨rE, (hX HB.out)⟩
              rw [if_pos c18] at H
              have c18b0 := decide_eq_true c18
              clear c18
              replace H := ifP H; obtain ⟨c19, H⟩ := H
              have c19b0 := decide_eq_true c19
              clear c19
              replace H := bE H; obtain ⟨t107, A20, H⟩ := H
              obtain ⟨hczt1, hczt2, hfzt1, hfzt2⟩ := cZ2 BKz1.out
              have pt1 : 0 ≤ (x4_3 : Int) := odA
              have qt1 : x4_3 < (l0_0.length : Int) := odA
              obtain ⟨adt1, et1, hxt1, hxt2, hxt3⟩ := at_T140b HR0_0.out HB.out x4_3 pt1 qt1
              cases et1
              replace pt1 := eq_true pt1
              replace qt1 := eq_true qt1
              go_wp2_with (first | ((with_reducible refine gate_dst (N := 5) rfl ?_); (try (refine gate_guard (by rfl) ?_; dsimp only)); refine boxF 5 #[.int .i64 0, .int .i64 0, .int .i64 0] 140 ?_; intro gbt1 hg wt1 hbox hb; have BKt1 := aM (hbox); have GWt1 := aG hg HB; have GEt1 := aG hg HB; have NBt1 := aL hg BKz1; have NBt2 := aR hg BKz1; replace BKz1 := aB BKz1 hb; replace HB := aS HB hb; clear hb hbox hg; have hnbt1 := NBt2.out; have hnct1 := NBt1.out; obtain ⟨hczt3, hczt4, hczt5, hfzt3, hfzt4, hfzt5⟩ := cZ3 BKt1.out; obtain ⟨hczt6, hczt7, hfzt6, hfzt7⟩ := cZ2 BKz1.out; refine Stop.out ?_))
              refine ⟨?_⟩
              by_cases c21 : t107 = true
              case neg =>
                replace c21 := Bool.eq_false_iff.mpr c21
                subst c21
                rw [if_neg nft] at H
                obtain rfl := sI H
                go_wp2_with (first | (go_at_call 157; (with_reducible refine (spec_WordOk.calls _ _ _ _ _ _ A20.out).mono ?_); rintro e wt2 ⟨rfl, hb⟩; replace BKz1 := aF BKz1 hb; replace BKt1 := aM (blk_below (g := gbt1) (o := .cells #[.int .i64 ((rd_T140 l0_0 x4_3).f0), .int .i64 ((rd_T140 l0_0 x4_3).f1), .int .i64 ((rd_T140 l0_0 x4_3).f2)] 140 (0, 0)) (bP BKt1.out) hb); replace HB := aS HB hb; clear hb))
                repeat (go_quiet (fail); try go_wp2_with (first | ((with_reducible refine gate_dst (N := 5) rfl ?_); (try (refine gate_guard (by rfl) ?_; dsimp only)); refine boxF 5 #[.int .i64 0, .int .i64 0, .int .i64 0] 140 ?_; intro gbt1 hg wt1 hbox hb; have BKt1 := aM (hbox); have GWt1 := aG hg HB; have GEt1 := aG hg HB; have NBt1 := aL hg BKz1; have NBt2 := aR hg BKz1; replace BKz1 := aB BKz1 hb; replace HB := aS HB hb; clear hb hbox hg; have hnbt1 := NBt2.out; have hnct1 := NBt1.out; obtain ⟨hczt3, hczt4, hczt5, hfzt3, hfzt4, hfzt5⟩ := cZ3 BKt1.out; obtain ⟨hczt6, hczt7, hfzt6, hfzt7⟩ := cZ2 BKz1.out) | (go_at_call 157; (with_reducible refine (spec_WordOk.calls _ _ _ _ _ _ A20.out).mono ?_); rintro e wt2 ⟨rfl, hb⟩; replace BKz1 := aF BKz1 hb; replace BKt1 := aM (blk_below (g := gbt1) (o := .cells #[.int .i64 ((rd_T140 l0_0 x4_3).f0), .int .i64 ((rd_T140 l0_0 x4_3).f1), .int .i64 ((rd_T140 l0_0 x4_3).f2)] 140 (0, 0)) (bP BKt1.out) hb); replace HB := aS HB hb; clear hb)))
                go_ret
                exact ⟨rE, (hX HB.out)⟩
              subst c21
              rw [if_pos rfl] at H
              by_cases c22 : ((rd_T140 l0_0 x4_3).f1) > 0
              case neg =>
                rw [if_neg c22] at H
                have c22b0 := decide_eq_false c22
                clear c22
                have H' := aM H
                clear H
                go_wp2_with (first | (go_at_call 157; (with_reducible refine (spec_WordOk.calls _ _ _ _ _ _ A20.out).mono ?_); rintro e wt2 ⟨rfl, hb⟩; replace BKz1 := aF BKz1 hb; replace BKt1 := aM (blk_below (g := gbt1) (o := .cells #[.int .i64 ((rd_T140 l0_0 x4_3).f0), .int .i64 ((rd_T140 l0_0 x4_3).f1), .int .i64 ((rd_T140 l0_0 x4_3).f2)] 140 (0, 0)) (bP BKt1.out) hb); replace HB := aS HB hb; clear hb; obtain ⟨hczt8, hczt9, hczt10, hfzt8, hfzt9, hfzt10⟩ := cZ3 BKt1.out))
                repeat (go_quiet (fail); try go_wp2_with (first | ((with_reducible refine gate_dst (N := 5) rfl ?_); (try (refine gate_guard (by rfl) ?_; dsimp only)); refine boxF 5 #[.int .i64 0, .int .i64 0, .int .i64 0] 140 ?_; intro gbt1 hg wt1 hbox hb; have BKt1 := aM (hbox); have GWt1 := aG hg HB; have GEt1 := aG hg HB; have NBt1 := aL hg BKz1; have NBt2 := aR hg BKz1; replace BKz1 := aB BKz1 hb; replace HB := aS HB hb; clear hb hbox hg; have hnbt1 := NBt2.out; have hnct1 := NBt1.out; obtain ⟨hczt3, hczt4, hczt5, hfzt3, hfzt4, hfzt5⟩ := cZ3 BKt1.out; obtain ⟨hczt6, hczt7, hfzt6, hfzt7⟩ := cZ2 BKz1.out) | (go_at_call 157; (with_reducible refine (spec_WordOk.calls _ _ _ _ _ _ A20.out).mono ?_); rintro e wt2 ⟨rfl, hb⟩; replace BKz1 := aF BKz1 hb; replace BKt1 := aM (blk_below (g := gbt1) (o := .cells #[.int .i64 ((rd_T140 l0_0 x4_3).f0), .int .i64 ((rd_T140 l0_0 x4_3).f1), .int .i64 ((rd_T140 l0_0 x4_3).f2)] 140 (0, 0)) (bP BKt1.out) hb); replace HB := aS HB hb; clear hb; obtain ⟨hczt8, hczt9, hczt10, hfzt8, hfzt9, hfzt10⟩ := cZ3 BKt1.out)))
                go_roundg k3
                case measure => have := HJy1.out; have := HKw1.out; have := HKu1.out; omega
                case rel => exact ⟨(wrap64 (x4_3 + 1)), rS, H', ⟨by have := HJy1.out; have := HKw1.out; have := HKu1.out; omega⟩, ⟨(bX BKz1.out)⟩, ⟨(hX HB.out)⟩⟩
              rw [if_pos c22] at H
              have c22b0 := decide_eq_true c22
              clear c22
              obtain ⟨ji23, hji23⟩ : ∃ j_ : Int, (wrap64 (((rd_T140 l0_0 x4_3).f1) - 1)) = j_ := ⟨_, rfl⟩
              replace H : (if 0 ≤ (ji23) then (if (ji23) < (l0_1.length : Int) then ((spec_Entries.f k3 ((rd_T162 l0_1 (ji23)).f0) ((rd_T162 l0_1 (ji23)).f1) ((rd_T162 l0_1 (ji23)).f2) ((rd_T162 l0_1 (ji23)).f3.f0) ((rd_T162 l0_1 (ji23)).f3.f1) x4_3).bind fun bt109 => (if bt109.2.2.2 = true then (if ((rd_T162 l0_1 (ji23)).f0) = ((rd_T140 l0_0 x4_3).f2) then (spec_MemOk.l1 k3 (wrap64 (x4_3 + 1)) l0_0 l0_1) else (some false)) else (some false))) else (none)) else (none)) = some r := by first | (rw [hji23] at H; exact H) | (simp only [hji23] at H ⊢; exact H)
              (try rw [hji23] at A20)
              have hji23w : (IntKind.i64.wrap (((rd_T140 l0_0 x4_3).f1) - 1)) = ji23 := (i64_w _).trans hji23
              replace H := ifP H; obtain ⟨c24, H⟩ := H
              have c24b0 := decide_eq_true c24
              clear c24
              replace H := ifP H; obtain ⟨c25, H⟩ := H
              have c25b0 := decide_eq_true c25
              clear c25
              replace H := bE H; obtain ⟨⟨t109, t110, t111, t112⟩, A26, H⟩ := H
              try dsimp only at H
              go_wp2_with (first | (go_at_call 157; (with_reducible refine (spec_WordOk.calls _ _ _ _ _ _ A20.out).mono ?_); rintro e wt2 ⟨rfl, hb⟩; replace BKz1 := aF BKz1 hb; replace BKt1 := aM (blk_below (g := gbt1) (o := .cells #[.int .i64 ((rd_T140 l0_0 x4_3).f0), .int .i64 ((rd_T140 l0_0 x4_3).f1), .int .i64 ((rd_T140 l0_0 x4_3).f2)] 140 (0, 0)) (bP BKt1.out) hb); replace HB := aS HB hb; clear hb; obtain ⟨hczt8, hczt9, hczt10, hfzt8, hfzt9, hfzt10⟩ := cZ3 BKt1.out; obtain ⟨hczt11, hczt12, hfzt11, hfzt12⟩ := cZ2 BKz1.out; have pt2 : 0 ≤ ((ji23) : Int) := odA; have qt2 : (ji23) < (l0_1.length : Int) := odA; obtain ⟨adt2, At1, ct1, At2, ct2, et2, hxt4, hxt5, hxt6, hxt7, hxt8, hlt1, hit1, hlt2, hit2⟩ := at_T162 HR0_1.out (ji23) pt2 qt2; cases et2; replace hxt4 := bc HB.out hxt4; replace hxt5 := bc HB.out hxt5; replace hxt6 := bc HB.out hxt6; replace hxt7 := bc HB.out hxt7; replace hxt8 := bc HB.out hxt8; have HRt1 := aM hit1; have HCt1 := aM hlt1; clear hit1 hlt1; have HRt2 := aM hit2; have HCt2 := aM hlt2; clear hit2 hlt2; replace pt2 := eq_true pt2; replace qt2 := eq_true qt2; refine Stop.out ?_))
              refine ⟨?_⟩
              by_cases c27 : t112 = true
              case neg =>
                replace c27 := Bool.eq_false_iff.mpr c27
                subst c27
                rw [if_neg nft] at H
                obtain rfl := sI H
                go_wp2_with (first | (go_at_call 158; (with_reducible refine (spec_Entries.calls _ _ _ _ _ _ _ _ _ _ _ _ _ _ _ _ (cC HRt1.out HB.out) HCt1.out (cC HRt2.out HB.out) HCt2.out A26.out).mono ?_); rintro e wt3 ⟨rfl, hb⟩; replace BKz1 := aB BKz1 hb; replace BKt1 := aB BKt1 hb; replace HB := aS HB hb; clear hb) | ((with_reducible refine gate_dst (N := 6) rfl ?_); (try (refine gate_guard (by rfl) ?_; dsimp only)); refine boxF 6 #[.int .i64 0, .int .i64 0, .int .i64 0] 165 ?_; intro gbt2 hg wt4 hbox hb; have BKt2 := aM (hbox); have GWt2 := aG hg HB; have GEt2 := aG hg HB; have NBt3 := aL hg BKz1; have NBt4 := aR hg BKz1; have NBt5 := aL hg BKt1; have NBt6 := aR hg BKt1; replace BKz1 := aB BKz1 hb; replace BKt1 := aB BKt1 hb; replace HB := aS HB hb; clear hb hbox hg; have hnbt2 := NBt4.out; have hnct2 := NBt3.out; have hnbt3 := NBt6.out; have hnct3 := NBt5.out; obtain ⟨hczt13, hczt14, hczt15, hfzt13, hfzt14, hfzt15⟩ := cZ3 BKt2.out))
                repeat (go_quiet (fail); try go_wp2_with (first | ((with_reducible refine gate_dst (N := 5) rfl ?_); (try (refine gate_guard (by rfl) ?_; dsimp only)); refine boxF 5 #[.int .i64 0, .int .i64 0, .int .i64 0] 140 ?_; intro gbt1 hg wt1 hbox hb; have BKt1 := aM (hbox); have GWt1 := aG hg HB; have GEt1 := aG hg HB; have NBt1 := aL hg BKz1; have NBt2 := aR hg BKz1; replace BKz1 := aB BKz1 hb; replace HB := aS HB hb; clear hb hbox hg; have hnbt1 := NBt2.out; have hnct1 := NBt1.out; obtain ⟨hczt3, hczt4, hczt5, hfzt3, hfzt4, hfzt5⟩ := cZ3 BKt1.out; obtain ⟨hczt6, hczt7, hfzt6, hfzt7⟩ := cZ2 BKz1.out) | (go_at_call 157; (with_reducible refine (spec_WordOk.calls _ _ _ _ _ _ A20.out).mono ?_); rintro e wt2 ⟨rfl, hb⟩; replace BKz1 := aF BKz1 hb; replace BKt1 := aM (blk_below (g := gbt1) (o := .cells #[.int .i64 ((rd_T140 l0_0 x4_3).f0), .int .i64 ((rd_T140 l0_0 x4_3).f1), .int .i64 ((rd_T140 l0_0 x4_3).f2)] 140 (0, 0)) (bP BKt1.out) hb); replace HB := aS HB hb; clear hb; obtain ⟨hczt8, hczt9, hczt10, hfzt8, hfzt9, hfzt10⟩ := cZ3 BKt1.out; obtain ⟨hczt11, hczt12, hfzt11, hfzt12⟩ := cZ2 BKz1.out; have pt2 : 0 ≤ ((ji23) : Int) := odA; have qt2 : (ji23) < (l0_1.length : Int) := odA; obtain ⟨adt2, At1, ct1, At2, ct2, et2, hxt4, hxt5, hxt6, hxt7, hxt8, hlt1, hit1, hlt2, hit2⟩ := at_T162 HR0_1.out (ji23) pt2 qt2; cases et2; replace hxt4 := bc HB.out hxt4; replace hxt5 := bc HB.out hxt5; replace hxt6 := bc HB.out hxt6; replace hxt7 := bc HB.out hxt7; replace hxt8 := bc HB.out hxt8; have HRt1 := aM hit1; have HCt1 := aM hlt1; clear hit1 hlt1; have HRt2 := aM hit2; have HCt2 := aM hlt2; clear hit2 hlt2; replace pt2 := eq_true pt2; replace qt2 := eq_true qt2) | (go_at_call 158; (with_reducible refine (spec_Entries.calls _ _ _ _ _ _ _ _ _ _ _ _ _ _ _ _ (cC HRt1.out HB.out) HCt1.out (cC HRt2.out HB.out) HCt2.out A26.out).mono ?_); rintro e wt3 ⟨rfl, hb⟩; replace BKz1 := aB BKz1 hb; replace BKt1 := aB BKt1 hb; replace HB := aS HB hb; clear hb) | ((with_reducible refine gate_dst (N := 6) rfl ?_); (try (refine gate_guard (by rfl) ?_; dsimp only)); refine boxF 6 #[.int .i64 0, .int .i64 0, .int .i64 0] 165 ?_; intro gbt2 hg wt4 hbox hb; have BKt2 := aM (hbox); have GWt2 := aG hg HB; have GEt2 := aG hg HB; have NBt3 := aL hg BKz1; have NBt4 := aR hg BKz1; have NBt5 := aL hg BKt1; have NBt6 := aR hg BKt1; replace BKz1 := aB BKz1 hb; replace BKt1 := aB BKt1 hb; replace HB := aS HB hb; clear hb hbox hg; have hnbt2 := NBt4.out; have hnct2 := NBt3.out; have hnbt3 := NBt6.out; have hnct3 := NBt5.out; obtain ⟨hczt13, hczt14, hczt15, hfzt13, hfzt14, hfzt15⟩ := cZ3 BKt2.out)))
                go_ret
                exact ⟨by first | rfl | (simp [errW_none, errW_some] <;> rfl) | (simp only [← hji23]; first | rfl | (simp [errW_none, errW_some] <;> rfl)) | (simp [*, errW_none, errW_some] <;> rfl), (hX HB.out)⟩
              subst c27
              rw [if_pos rfl] at H
              go_wp2_with (first | (go_at_call 158; (with_reducible refine (spec_Entries.calls _ _ _ _ _ _ _ _ _ _ _ _ _ _ _ _ (cC HRt1.out HB.out) HCt1.out (cC HRt2.out HB.out) HCt2.out A26.out).mono ?_); rintro e wt3 ⟨rfl, hb⟩; replace BKz1 := aB BKz1 hb; replace BKt1 := aB BKt1 hb; replace HB := aS HB hb; clear hb) | ((with_reducible refine gate_dst (N := 6) rfl ?_); (try (refine gate_guard (by rfl) ?_; dsimp only)); refine boxF 6 #[.int .i64 0, .int .i64 0, .int .i64 0] 165 ?_; intro gbt2 hg wt4 hbox hb; have BKt2 := aM (hbox); have GWt2 := aG hg HB; have GEt2 := aG hg HB; have NBt3 := aL hg BKz1; have NBt4 := aR hg BKz1; have NBt5 := aL hg BKt1; have NBt6 := aR hg BKt1; replace BKz1 := aB BKz1 hb; replace BKt1 := aB BKt1 hb; replace HB := aS HB hb; clear hb hbox hg; have hnbt2 := NBt4.out; have hnct2 := NBt3.out; have hnbt3 := NBt6.out; have hnct3 := NBt5.out; obtain ⟨hczt13, hczt14, hczt15, hfzt13, hfzt14, hfzt15⟩ := cZ3 BKt2.out; obtain ⟨hczt16, hczt17, hfzt16, hfzt17⟩ := cZ2 BKz1.out; obtain ⟨hczt18, hczt19, hczt20, hfzt18, hfzt19, hfzt20⟩ := cZ3 BKt1.out; have pt3 : 0 ≤ ((ji23) : Int) := odA; have qt3 : (ji23) < (l0_1.length : Int) := odA; obtain ⟨adt3, At3, ct3, At4, ct4, et3, hxt9, hxt10, hxt11, hxt12, hxt13, hlt3, hit3, hlt4, hit4⟩ := at_T162 HR0_1.out (ji23) pt3 qt3; obtain rfl : adt2 = adt3 := (by injection et3); have hnt1 : adt2.block ≠ gbt2 := Nat.ne_of_lt (Nat.lt_of_lt_of_le (by have := World.block_lt_of_cell? _ _ hxt9; first | rwa [add_block] at this | exact this) GWt2.out); have hnt2 : adt2.block ≠ gbt2 := Nat.ne_of_lt (Nat.lt_of_lt_of_le (by have := World.block_lt_of_cell? _ _ hxt9; first | rwa [add_block] at this | exact this) GWt2.out); have hnt3 : adt2.block ≠ gbt2 := Nat.ne_of_lt (Nat.lt_of_lt_of_le (by have := World.block_lt_of_cell? _ _ hxt9; first | rwa [add_block] at this | exact this) GWt2.out); replace hxt9 := bc HB.out hxt9; replace hxt10 := bc HB.out hxt10; replace hxt11 := bc HB.out hxt11; replace hxt12 := bc HB.out hxt12; replace hxt13 := bc HB.out hxt13; have HRt3 := aM hit3; have HCt3 := aM hlt3; clear hit3 hlt3; have HRt4 := aM hit4; have HCt4 := aM hlt4; clear hit4 hlt4; replace hxt9 := (cell_far (p := ⟨gbt2, 0, none⟩) (by first | (rw [add_block]; exact hnt1) | (show (Addr.add _ _).block ≠ _; rw [add_block]; exact hnt1) | exact hnt1) (.int .i64 t109)).trans hxt9; replace hxt10 := (cell_far (p := ⟨gbt2, 0, none⟩) (by first | (rw [add_block]; exact hnt1) | (show (Addr.add _ _).block ≠ _; rw [add_block]; exact hnt1) | exact hnt1) (.int .i64 t109)).trans hxt10; replace hxt11 := (cell_far (p := ⟨gbt2, 0, none⟩) (by first | (rw [add_block]; exact hnt1) | (show (Addr.add _ _).block ≠ _; rw [add_block]; exact hnt1) | exact hnt1) (.int .i64 t109)).trans hxt11; replace hxt12 := (cell_far (p := ⟨gbt2, 0, none⟩) (by first | (rw [add_block]; exact hnt1) | (show (Addr.add _ _).block ≠ _; rw [add_block]; exact hnt1) | exact hnt1) (.int .i64 t109)).trans hxt12; replace hxt13 := (cell_far (p := ⟨gbt2, 0, none⟩) (by first | (rw [add_block]; exact hnt1) | (show (Addr.add _ _).block ≠ _; rw [add_block]; exact hnt1) | exact hnt1) (.int .i64 t109)).trans hxt13; replace hxt9 := (cell_far (p := ⟨gbt2, 1, none⟩) (by first | (rw [add_block]; exact hnt2) | (show (Addr.add _ _).block ≠ _; rw [add_block]; exact hnt2) | exact hnt2) (.int .i64 t110)).trans hxt9; replace hxt10 := (cell_far (p := ⟨gbt2, 1, none⟩) (by first | (rw [add_block]; exact hnt2) | (show (Addr.add _ _).block ≠ _; rw [add_block]; exact hnt2) | exact hnt2) (.int .i64 t110)).trans hxt10; replace hxt11 := (cell_far (p := ⟨gbt2, 1, none⟩) (by first | (rw [add_block]; exact hnt2) | (show (Addr.add _ _).block ≠ _; rw [add_block]; exact hnt2) | exact hnt2) (.int .i64 t110)).trans hxt11; replace hxt12 := (cell_far (p := ⟨gbt2, 1, none⟩) (by first | (rw [add_block]; exact hnt2) | (show (Addr.add _ _).block ≠ _; rw [add_block]; exact hnt2) | exact hnt2) (.int .i64 t110)).trans hxt12; replace hxt13 := (cell_far (p := ⟨gbt2, 1, none⟩) (by first | (rw [add_block]; exact hnt2) | (show (Addr.add _ _).block ≠ _; rw [add_block]; exact hnt2) | exact hnt2) (.int .i64 t110)).trans hxt13; replace hxt9 := (cell_far (p := ⟨gbt2, 2, none⟩) (by first | (rw [add_block]; exact hnt3) | (show (Addr.add _ _).block ≠ _; rw [add_block]; exact hnt3) | exact hnt3) (.int .i64 t111)).trans hxt9; replace hxt10 := (cell_far (p := ⟨gbt2, 2, none⟩) (by first | (rw [add_block]; exact hnt3) | (show (Addr.add _ _).block ≠ _; rw [add_block]; exact hnt3) | exact hnt3) (.int .i64 t111)).trans hxt10; replace hxt11 := (cell_far (p := ⟨gbt2, 2, none⟩) (by first | (rw [add_block]; exact hnt3) | (show (Addr.add _ _).block ≠ _; rw [add_block]; exact hnt3) | exact hnt3) (.int .i64 t111)).trans hxt11; replace hxt12 := (cell_far (p := ⟨gbt2, 2, none⟩) (by first | (rw [add_block]; exact hnt3) | (show (Addr.add _ _).block ≠ _; rw [add_block]; exact hnt3) | exact hnt3) (.int .i64 t111)).trans hxt12; replace hxt13 := (cell_far (p := ⟨gbt2, 2, none⟩) (by first | (rw [add_block]; exact hnt3) | (show (Addr.add _ _).block ≠ _; rw [add_block]; exact hnt3) | exact hnt3) (.int .i64 t111)).trans hxt13; (try have hy114_0 := fun (n_ : Nat) => (show (((((wt4.drewN n_).setCell ⟨gbt2, 0, none⟩ (.int .i64 t109)).setCell ⟨gbt2, 1, none⟩ (.int .i64 t110)).setCell ⟨gbt2, 2, none⟩ (.int .i64 t111))).cell? _ = some _ from hxt9)); (try have hy114_1 := fun (n_ : Nat) => (show (((((wt4.drewN n_).setCell ⟨gbt2, 0, none⟩ (.int .i64 t109)).setCell ⟨gbt2, 1, none⟩ (.int .i64 t110)).setCell ⟨gbt2, 2, none⟩ (.int .i64 t111))).cell? _ = some _ from hxt10)); (try have hy114_2 := fun (n_ : Nat) => (show (((((wt4.drewN n_).setCell ⟨gbt2, 0, none⟩ (.int .i64 t109)).setCell ⟨gbt2, 1, none⟩ (.int .i64 t110)).setCell ⟨gbt2, 2, none⟩ (.int .i64 t111))).cell? _ = some _ from hxt11)); (try have hy114_3 := fun (n_ : Nat) => (show (((((wt4.drewN n_).setCell ⟨gbt2, 0, none⟩ (.int .i64 t109)).setCell ⟨gbt2, 1, none⟩ (.int .i64 t110)).setCell ⟨gbt2, 2, none⟩ (.int .i64 t111))).cell? _ = some _ from hxt12)); (try have hy114_4 := fun (n_ : Nat) => (show (((((wt4.drewN n_).setCell ⟨gbt2, 0, none⟩ (.int .i64 t109)).setCell ⟨gbt2, 1, none⟩ (.int .i64 t110)).setCell ⟨gbt2, 2, none⟩ (.int .i64 t111))).cell? _ = some _ from hxt13)); clear hnt1; clear hnt2; clear hnt3; replace pt3 := eq_true pt3; replace qt3 := eq_true qt3; refine Stop.out ?_))
              refine ⟨?_⟩
              by_cases c28 : ((rd_T162 l0_1 (ji23)).f0) = ((rd_T140 l0_0 x4_3).f2)
              case neg =>
                rw [if_neg c28] at H
                obtain ⟨c28b0, c28b1⟩ := eqF c28
                obtain rfl := sI H
                go_wp2
                repeat (go_quiet (fail); try go_wp2_with (first | ((with_reducible refine gate_dst (N := 5) rfl ?_); (try (refine gate_guard (by rfl) ?_; dsimp only)); refine boxF 5 #[.int .i64 0, .int .i64 0, .int .i64 0] 140 ?_; intro gbt1 hg wt1 hbox hb; have BKt1 := aM (hbox); have GWt1 := aG hg HB; have GEt1 := aG hg HB; have NBt1 := aL hg BKz1; have NBt2 := aR hg BKz1; replace BKz1 := aB BKz1 hb; replace HB := aS HB hb; clear hb hbox hg; have hnbt1 := NBt2.out; have hnct1 := NBt1.out; obtain ⟨hczt3, hczt4, hczt5, hfzt3, hfzt4, hfzt5⟩ := cZ3 BKt1.out; obtain ⟨hczt6, hczt7, hfzt6, hfzt7⟩ := cZ2 BKz1.out) | (go_at_call 157; (with_reducible refine (spec_WordOk.calls _ _ _ _ _ _ A20.out).mono ?_); rintro e wt2 ⟨rfl, hb⟩; replace BKz1 := aF BKz1 hb; replace BKt1 := aM (blk_below (g := gbt1) (o := .cells #[.int .i64 ((rd_T140 l0_0 x4_3).f0), .int .i64 ((rd_T140 l0_0 x4_3).f1), .int .i64 ((rd_T140 l0_0 x4_3).f2)] 140 (0, 0)) (bP BKt1.out) hb); replace HB := aS HB hb; clear hb; obtain ⟨hczt8, hczt9, hczt10, hfzt8, hfzt9, hfzt10⟩ := cZ3 BKt1.out; obtain ⟨hczt11, hczt12, hfzt11, hfzt12⟩ := cZ2 BKz1.out; have pt2 : 0 ≤ ((ji23) : Int) := odA; have qt2 : (ji23) < (l0_1.length : Int) := odA; obtain ⟨adt2, At1, ct1, At2, ct2, et2, hxt4, hxt5, hxt6, hxt7, hxt8, hlt1, hit1, hlt2, hit2⟩ := at_T162 HR0_1.out (ji23) pt2 qt2; cases et2; replace hxt4 := bc HB.out hxt4; replace hxt5 := bc HB.out hxt5; replace hxt6 := bc HB.out hxt6; replace hxt7 := bc HB.out hxt7; replace hxt8 := bc HB.out hxt8; have HRt1 := aM hit1; have HCt1 := aM hlt1; clear hit1 hlt1; have HRt2 := aM hit2; have HCt2 := aM hlt2; clear hit2 hlt2; replace pt2 := eq_true pt2; replace qt2 := eq_true qt2) | (go_at_call 158; (with_reducible refine (spec_Entries.calls _ _ _ _ _ _ _ _ _ _ _ _ _ _ _ _ (cC HRt1.out HB.out) HCt1.out (cC HRt2.out HB.out) HCt2.out A26.out).mono ?_); rintro e wt3 ⟨rfl, hb⟩; replace BKz1 := aB BKz1 hb; replace BKt1 := aB BKt1 hb; replace HB := aS HB hb; clear hb) | ((with_reducible refine gate_dst (N := 6) rfl ?_); (try (refine gate_guard (by rfl) ?_; dsimp only)); refine boxF 6 #[.int .i64 0, .int .i64 0, .int .i64 0] 165 ?_; intro gbt2 hg wt4 hbox hb; have BKt2 := aM (hbox); have GWt2 := aG hg HB; have GEt2 := aG hg HB; have NBt3 := aL hg BKz1; have NBt4 := aR hg BKz1; have NBt5 := aL hg BKt1; have NBt6 := aR hg BKt1; replace BKz1 := aB BKz1 hb; replace BKt1 := aB BKt1 hb; replace HB := aS HB hb; clear hb hbox hg; have hnbt2 := NBt4.out; have hnct2 := NBt3.out; have hnbt3 := NBt6.out; have hnct3 := NBt5.out; obtain ⟨hczt13, hczt14, hczt15, hfzt13, hfzt14, hfzt15⟩ := cZ3 BKt2.out; obtain ⟨hczt16, hczt17, hfzt16, hfzt17⟩ := cZ2 BKz1.out; obtain ⟨hczt18, hczt19, hczt20, hfzt18, hfzt19, hfzt20⟩ := cZ3 BKt1.out; have pt3 : 0 ≤ ((ji23) : Int) := odA; have qt3 : (ji23) < (l0_1.length : Int) := odA; obtain ⟨adt3, At3, ct3, At4, ct4, et3, hxt9, hxt10, hxt11, hxt12, hxt13, hlt3, hit3, hlt4, hit4⟩ := at_T162 HR0_1.out (ji23) pt3 qt3; obtain rfl : adt2 = adt3 := (by injection et3); have hnt1 : adt2.block ≠ gbt2 := Nat.ne_of_lt (Nat.lt_of_lt_of_le (by have := World.block_lt_of_cell? _ _ hxt9; first | rwa [add_block] at this | exact this) GWt2.out); have hnt2 : adt2.block ≠ gbt2 := Nat.ne_of_lt (Nat.lt_of_lt_of_le (by have := World.block_lt_of_cell? _ _ hxt9; first | rwa [add_block] at this | exact this) GWt2.out); have hnt3 : adt2.block ≠ gbt2 := Nat.ne_of_lt (Nat.lt_of_lt_of_le (by have := World.block_lt_of_cell? _ _ hxt9; first | rwa [add_block] at this | exact this) GWt2.out); replace hxt9 := bc HB.out hxt9; replace hxt10 := bc HB.out hxt10; replace hxt11 := bc HB.out hxt11; replace hxt12 := bc HB.out hxt12; replace hxt13 := bc HB.out hxt13; have HRt3 := aM hit3; have HCt3 := aM hlt3; clear hit3 hlt3; have HRt4 := aM hit4; have HCt4 := aM hlt4; clear hit4 hlt4; replace hxt9 := (cell_far (p := ⟨gbt2, 0, none⟩) (by first | (rw [add_block]; exact hnt1) | (show (Addr.add _ _).block ≠ _; rw [add_block]; exact hnt1) | exact hnt1) (.int .i64 t109)).trans hxt9; replace hxt10 := (cell_far (p := ⟨gbt2, 0, none⟩) (by first | (rw [add_block]; exact hnt1) | (show (Addr.add _ _).block ≠ _; rw [add_block]; exact hnt1) | exact hnt1) (.int .i64 t109)).trans hxt10; replace hxt11 := (cell_far (p := ⟨gbt2, 0, none⟩) (by first | (rw [add_block]; exact hnt1) | (show (Addr.add _ _).block ≠ _; rw [add_block]; exact hnt1) | exact hnt1) (.int .i64 t109)).trans hxt11; replace hxt12 := (cell_far (p := ⟨gbt2, 0, none⟩) (by first | (rw [add_block]; exact hnt1) | (show (Addr.add _ _).block ≠ _; rw [add_block]; exact hnt1) | exact hnt1) (.int .i64 t109)).trans hxt12; replace hxt13 := (cell_far (p := ⟨gbt2, 0, none⟩) (by first | (rw [add_block]; exact hnt1) | (show (Addr.add _ _).block ≠ _; rw [add_block]; exact hnt1) | exact hnt1) (.int .i64 t109)).trans hxt13; replace hxt9 := (cell_far (p := ⟨gbt2, 1, none⟩) (by first | (rw [add_block]; exact hnt2) | (show (Addr.add _ _).block ≠ _; rw [add_block]; exact hnt2) | exact hnt2) (.int .i64 t110)).trans hxt9; replace hxt10 := (cell_far (p := ⟨gbt2, 1, none⟩) (by first | (rw [add_block]; exact hnt2) | (show (Addr.add _ _).block ≠ _; rw [add_block]; exact hnt2) | exact hnt2) (.int .i64 t110)).trans hxt10; replace hxt11 := (cell_far (p := ⟨gbt2, 1, none⟩) (by first | (rw [add_block]; exact hnt2) | (show (Addr.add _ _).block ≠ _; rw [add_block]; exact hnt2) | exact hnt2) (.int .i64 t110)).trans hxt11; replace hxt12 := (cell_far (p := ⟨gbt2, 1, none⟩) (by first | (rw [add_block]; exact hnt2) | (show (Addr.add _ _).block ≠ _; rw [add_block]; exact hnt2) | exact hnt2) (.int .i64 t110)).trans hxt12; replace hxt13 := (cell_far (p := ⟨gbt2, 1, none⟩) (by first | (rw [add_block]; exact hnt2) | (show (Addr.add _ _).block ≠ _; rw [add_block]; exact hnt2) | exact hnt2) (.int .i64 t110)).trans hxt13; replace hxt9 := (cell_far (p := ⟨gbt2, 2, none⟩) (by first | (rw [add_block]; exact hnt3) | (show (Addr.add _ _).block ≠ _; rw [add_block]; exact hnt3) | exact hnt3) (.int .i64 t111)).trans hxt9; replace hxt10 := (cell_far (p := ⟨gbt2, 2, none⟩) (by first | (rw [add_block]; exact hnt3) | (show (Addr.add _ _).block ≠ _; rw [add_block]; exact hnt3) | exact hnt3) (.int .i64 t111)).trans hxt10; replace hxt11 := (cell_far (p := ⟨gbt2, 2, none⟩) (by first | (rw [add_block]; exact hnt3) | (show (Addr.add _ _).block ≠ _; rw [add_block]; exact hnt3) | exact hnt3) (.int .i64 t111)).trans hxt11; replace hxt12 := (cell_far (p := ⟨gbt2, 2, none⟩) (by first | (rw [add_block]; exact hnt3) | (show (Addr.add _ _).block ≠ _; rw [add_block]; exact hnt3) | exact hnt3) (.int .i64 t111)).trans hxt12; replace hxt13 := (cell_far (p := ⟨gbt2, 2, none⟩) (by first | (rw [add_block]; exact hnt3) | (show (Addr.add _ _).block ≠ _; rw [add_block]; exact hnt3) | exact hnt3) (.int .i64 t111)).trans hxt13; (try have hy114_0 := fun (n_ : Nat) => (show (((((wt4.drewN n_).setCell ⟨gbt2, 0, none⟩ (.int .i64 t109)).setCell ⟨gbt2, 1, none⟩ (.int .i64 t110)).setCell ⟨gbt2, 2, none⟩ (.int .i64 t111))).cell? _ = some _ from hxt9)); (try have hy114_1 := fun (n_ : Nat) => (show (((((wt4.drewN n_).setCell ⟨gbt2, 0, none⟩ (.int .i64 t109)).setCell ⟨gbt2, 1, none⟩ (.int .i64 t110)).setCell ⟨gbt2, 2, none⟩ (.int .i64 t111))).cell? _ = some _ from hxt10)); (try have hy114_2 := fun (n_ : Nat) => (show (((((wt4.drewN n_).setCell ⟨gbt2, 0, none⟩ (.int .i64 t109)).setCell ⟨gbt2, 1, none⟩ (.int .i64 t110)).setCell ⟨gbt2, 2, none⟩ (.int .i64 t111))).cell? _ = some _ from hxt11)); (try have hy114_3 := fun (n_ : Nat) => (show (((((wt4.drewN n_).setCell ⟨gbt2, 0, none⟩ (.int .i64 t109)).setCell ⟨gbt2, 1, none⟩ (.int .i64 t110)).setCell ⟨gbt2, 2, none⟩ (.int .i64 t111))).cell? _ = some _ from hxt12)); (try have hy114_4 := fun (n_ : Nat) => (show (((((wt4.drewN n_).setCell ⟨gbt2, 0, none⟩ (.int .i64 t109)).setCell ⟨gbt2, 1, none⟩ (.int .i64 t110)).setCell ⟨gbt2, 2, none⟩ (.int .i64 t111))).cell? _ = some _ from hxt13)); clear hnt1; clear hnt2; clear hnt3; replace pt3 := eq_true pt3; replace qt3 := eq_true qt3)))
                go_ret
                exact ⟨by first | rfl | (simp [errW_none, errW_some] <;> rfl) | (simp only [← hji23]; first | rfl | (simp [errW_none, errW_some] <;> rfl)) | (simp [*, errW_none, errW_some] <;> rfl), (hX HB.out)⟩
              rw [if_pos c28] at H
              obtain ⟨c28b0, c28b1⟩ := eqT c28
              clear c28
              have H' := aM H
              clear H
              go_wp2
              repeat (go_quiet (fail); try go_wp2_with (first | ((with_reducible refine gate_dst (N := 5) rfl ?_); (try (refine gate_guard (by rfl) ?_; dsimp only)); refine boxF 5 #[.int .i64 0, .int .i64 0, .int .i64 0] 140 ?_; intro gbt1 hg wt1 hbox hb; have BKt1 := aM (hbox); have GWt1 := aG hg HB; have GEt1 := aG hg HB; have NBt1 := aL hg BKz1; have NBt2 := aR hg BKz1; replace BKz1 := aB BKz1 hb; replace HB := aS HB hb; clear hb hbox hg; have hnbt1 := NBt2.out; have hnct1 := NBt1.out; obtain ⟨hczt3, hczt4, hczt5, hfzt3, hfzt4, hfzt5⟩ := cZ3 BKt1.out; obtain ⟨hczt6, hczt7, hfzt6, hfzt7⟩ := cZ2 BKz1.out) | (go_at_call 157; (with_reducible refine (spec_WordOk.calls _ _ _ _ _ _ A20.out).mono ?_); rintro e wt2 ⟨rfl, hb⟩; replace BKz1 := aF BKz1 hb; replace BKt1 := aM (blk_below (g := gbt1) (o := .cells #[.int .i64 ((rd_T140 l0_0 x4_3).f0), .int .i64 ((rd_T140 l0_0 x4_3).f1), .int .i64 ((rd_T140 l0_0 x4_3).f2)] 140 (0, 0)) (bP BKt1.out) hb); replace HB := aS HB hb; clear hb; obtain ⟨hczt8, hczt9, hczt10, hfzt8, hfzt9, hfzt10⟩ := cZ3 BKt1.out; obtain ⟨hczt11, hczt12, hfzt11, hfzt12⟩ := cZ2 BKz1.out; have pt2 : 0 ≤ ((ji23) : Int) := odA; have qt2 : (ji23) < (l0_1.length : Int) := odA; obtain ⟨adt2, At1, ct1, At2, ct2, et2, hxt4, hxt5, hxt6, hxt7, hxt8, hlt1, hit1, hlt2, hit2⟩ := at_T162 HR0_1.out (ji23) pt2 qt2; cases et2; replace hxt4 := bc HB.out hxt4; replace hxt5 := bc HB.out hxt5; replace hxt6 := bc HB.out hxt6; replace hxt7 := bc HB.out hxt7; replace hxt8 := bc HB.out hxt8; have HRt1 := aM hit1; have HCt1 := aM hlt1; clear hit1 hlt1; have HRt2 := aM hit2; have HCt2 := aM hlt2; clear hit2 hlt2; replace pt2 := eq_true pt2; replace qt2 := eq_true qt2) | (go_at_call 158; (with_reducible refine (spec_Entries.calls _ _ _ _ _ _ _ _ _ _ _ _ _ _ _ _ (cC HRt1.out HB.out) HCt1.out (cC HRt2.out HB.out) HCt2.out A26.out).mono ?_); rintro e wt3 ⟨rfl, hb⟩; replace BKz1 := aB BKz1 hb; replace BKt1 := aB BKt1 hb; replace HB := aS HB hb; clear hb) | ((with_reducible refine gate_dst (N := 6) rfl ?_); (try (refine gate_guard (by rfl) ?_; dsimp only)); refine boxF 6 #[.int .i64 0, .int .i64 0, .int .i64 0] 165 ?_; intro gbt2 hg wt4 hbox hb; have BKt2 := aM (hbox); have GWt2 := aG hg HB; have GEt2 := aG hg HB; have NBt3 := aL hg BKz1; have NBt4 := aR hg BKz1; have NBt5 := aL hg BKt1; have NBt6 := aR hg BKt1; replace BKz1 := aB BKz1 hb; replace BKt1 := aB BKt1 hb; replace HB := aS HB hb; clear hb hbox hg; have hnbt2 := NBt4.out; have hnct2 := NBt3.out; have hnbt3 := NBt6.out; have hnct3 := NBt5.out; obtain ⟨hczt13, hczt14, hczt15, hfzt13, hfzt14, hfzt15⟩ := cZ3 BKt2.out; obtain ⟨hczt16, hczt17, hfzt16, hfzt17⟩ := cZ2 BKz1.out; obtain ⟨hczt18, hczt19, hczt20, hfzt18, hfzt19, hfzt20⟩ := cZ3 BKt1.out; have pt3 : 0 ≤ ((ji23) : Int) := odA; have qt3 : (ji23) < (l0_1.length : Int) := odA; obtain ⟨adt3, At3, ct3, At4, ct4, et3, hxt9, hxt10, hxt11, hxt12, hxt13, hlt3, hit3, hlt4, hit4⟩ := at_T162 HR0_1.out (ji23) pt3 qt3; obtain rfl : adt2 = adt3 := (by injection et3); have hnt1 : adt2.block ≠ gbt2 := Nat.ne_of_lt (Nat.lt_of_lt_of_le (by have := World.block_lt_of_cell? _ _ hxt9; first | rwa [add_block] at this | exact this) GWt2.out); have hnt2 : adt2.block ≠ gbt2 := Nat.ne_of_lt (Nat.lt_of_lt_of_le (by have := World.block_lt_of_cell? _ _ hxt9; first | rwa [add_block] at this | exact this) GWt2.out); have hnt3 : adt2.block ≠ gbt2 := Nat.ne_of_lt (Nat.lt_of_lt_of_le (by have := World.block_lt_of_cell? _ _ hxt9; first | rwa [add_block] at this | exact this) GWt2.out); replace hxt9 := bc HB.out hxt9; replace hxt10 := bc HB.out hxt10; replace hxt11 := bc HB.out hxt11; replace hxt12 := bc HB.out hxt12; replace hxt13 := bc HB.out hxt13; have HRt3 := aM hit3; have HCt3 := aM hlt3; clear hit3 hlt3; have HRt4 := aM hit4; have HCt4 := aM hlt4; clear hit4 hlt4; replace hxt9 := (cell_far (p := ⟨gbt2, 0, none⟩) (by first | (rw [add_block]; exact hnt1) | (show (Addr.add _ _).block ≠ _; rw [add_block]; exact hnt1) | exact hnt1) (.int .i64 t109)).trans hxt9; replace hxt10 := (cell_far (p := ⟨gbt2, 0, none⟩) (by first | (rw [add_block]; exact hnt1) | (show (Addr.add _ _).block ≠ _; rw [add_block]; exact hnt1) | exact hnt1) (.int .i64 t109)).trans hxt10; replace hxt11 := (cell_far (p := ⟨gbt2, 0, none⟩) (by first | (rw [add_block]; exact hnt1) | (show (Addr.add _ _).block ≠ _; rw [add_block]; exact hnt1) | exact hnt1) (.int .i64 t109)).trans hxt11; replace hxt12 := (cell_far (p := ⟨gbt2, 0, none⟩) (by first | (rw [add_block]; exact hnt1) | (show (Addr.add _ _).block ≠ _; rw [add_block]; exact hnt1) | exact hnt1) (.int .i64 t109)).trans hxt12; replace hxt13 := (cell_far (p := ⟨gbt2, 0, none⟩) (by first | (rw [add_block]; exact hnt1) | (show (Addr.add _ _).block ≠ _; rw [add_block]; exact hnt1) | exact hnt1) (.int .i64 t109)).trans hxt13; replace hxt9 := (cell_far (p := ⟨gbt2, 1, none⟩) (by first | (rw [add_block]; exact hnt2) | (show (Addr.add _ _).block ≠ _; rw [add_block]; exact hnt2) | exact hnt2) (.int .i64 t110)).trans hxt9; replace hxt10 := (cell_far (p := ⟨gbt2, 1, none⟩) (by first | (rw [add_block]; exact hnt2) | (show (Addr.add _ _).block ≠ _; rw [add_block]; exact hnt2) | exact hnt2) (.int .i64 t110)).trans hxt10; replace hxt11 := (cell_far (p := ⟨gbt2, 1, none⟩) (by first | (rw [add_block]; exact hnt2) | (show (Addr.add _ _).block ≠ _; rw [add_block]; exact hnt2) | exact hnt2) (.int .i64 t110)).trans hxt11; replace hxt12 := (cell_far (p := ⟨gbt2, 1, none⟩) (by first | (rw [add_block]; exact hnt2) | (show (Addr.add _ _).block ≠ _; rw [add_block]; exact hnt2) | exact hnt2) (.int .i64 t110)).trans hxt12; replace hxt13 := (cell_far (p := ⟨gbt2, 1, none⟩) (by first | (rw [add_block]; exact hnt2) | (show (Addr.add _ _).block ≠ _; rw [add_block]; exact hnt2) | exact hnt2) (.int .i64 t110)).trans hxt13; replace hxt9 := (cell_far (p := ⟨gbt2, 2, none⟩) (by first | (rw [add_block]; exact hnt3) | (show (Addr.add _ _).block ≠ _; rw [add_block]; exact hnt3) | exact hnt3) (.int .i64 t111)).trans hxt9; replace hxt10 := (cell_far (p := ⟨gbt2, 2, none⟩) (by first | (rw [add_block]; exact hnt3) | (show (Addr.add _ _).block ≠ _; rw [add_block]; exact hnt3) | exact hnt3) (.int .i64 t111)).trans hxt10; replace hxt11 := (cell_far (p := ⟨gbt2, 2, none⟩) (by first | (rw [add_block]; exact hnt3) | (show (Addr.add _ _).block ≠ _; rw [add_block]; exact hnt3) | exact hnt3) (.int .i64 t111)).trans hxt11; replace hxt12 := (cell_far (p := ⟨gbt2, 2, none⟩) (by first | (rw [add_block]; exact hnt3) | (show (Addr.add _ _).block ≠ _; rw [add_block]; exact hnt3) | exact hnt3) (.int .i64 t111)).trans hxt12; replace hxt13 := (cell_far (p := ⟨gbt2, 2, none⟩) (by first | (rw [add_block]; exact hnt3) | (show (Addr.add _ _).block ≠ _; rw [add_block]; exact hnt3) | exact hnt3) (.int .i64 t111)).trans hxt13; (try have hy114_0 := fun (n_ : Nat) => (show (((((wt4.drewN n_).setCell ⟨gbt2, 0, none⟩ (.int .i64 t109)).setCell ⟨gbt2, 1, none⟩ (.int .i64 t110)).setCell ⟨gbt2, 2, none⟩ (.int .i64 t111))).cell? _ = some _ from hxt9)); (try have hy114_1 := fun (n_ : Nat) => (show (((((wt4.drewN n_).setCell ⟨gbt2, 0, none⟩ (.int .i64 t109)).setCell ⟨gbt2, 1, none⟩ (.int .i64 t110)).setCell ⟨gbt2, 2, none⟩ (.int .i64 t111))).cell? _ = some _ from hxt10)); (try have hy114_2 := fun (n_ : Nat) => (show (((((wt4.drewN n_).setCell ⟨gbt2, 0, none⟩ (.int .i64 t109)).setCell ⟨gbt2, 1, none⟩ (.int .i64 t110)).setCell ⟨gbt2, 2, none⟩ (.int .i64 t111))).cell? _ = some _ from hxt11)); (try have hy114_3 := fun (n_ : Nat) => (show (((((wt4.drewN n_).setCell ⟨gbt2, 0, none⟩ (.int .i64 t109)).setCell ⟨gbt2, 1, none⟩ (.int .i64 t110)).setCell ⟨gbt2, 2, none⟩ (.int .i64 t111))).cell? _ = some _ from hxt12)); (try have hy114_4 := fun (n_ : Nat) => (show (((((wt4.drewN n_).setCell ⟨gbt2, 0, none⟩ (.int .i64 t109)).setCell ⟨gbt2, 1, none⟩ (.int .i64 t110)).setCell ⟨gbt2, 2, none⟩ (.int .i64 t111))).cell? _ = some _ from hxt13)); clear hnt1; clear hnt2; clear hnt3; replace pt3 := eq_true pt3; replace qt3 := eq_true qt3)))
              go_roundg k3
              case measure => have := HJy1.out; have := HKw1.out; have := HKu1.out; omega
              case rel => exact ⟨(wrap64 (x4_3 + 1)), rS, H', ⟨by have := HJy1.out; have := HKw1.out; have := HKu1.out; omega⟩, ⟨(bF BKz1.out)⟩, ⟨(hX HB.out)⟩⟩
def spec_ValOk.f (a0 : Int) : Option (Bool) := (spec_l1In.f a0 1 6).bind fun t101 => (some t101)
set_option maxHeartbeats 8000000 in
set_option maxRecDepth 100000 in
theorem spec_ValOk.calls (a0 : Int) (r : Bool) (w : World) (h : spec_ValOk.f a0 = some r) :
    Calls Tryz.prog 159 #[.int .i64 a0] w fun e w' => e = .returned (.bool r) ∧ Drawn0 w w' := by
  have H := h
  unfold spec_ValOk.f at H
  clear h
  replace H := bE H; obtain ⟨t101, A2, H⟩ := H
  obtain rfl := sI H
  go_enter Tryz.func159, Tryz.ntmps159
  go_wp2_with (first | (refine goesM 43 4 Tryz.func43 #[.int .i64 a0, .int .i64 1, .int .i64 6] ?_; refine (spec_l1In.calls _ _ _ _ _ A2.out).mono ?_; rintro e w' ⟨rfl, ⟨nd, rfl⟩⟩; refine ⟨_, rfl, ?_⟩))
  go_ret
  exact ⟨by first | rfl | (simp; done) | (simp [*]; done), dX⟩
def spec_KeyOf.l0 : Nat → Int → Int → List Int → Int → Option (Int)
  | 0, _, _, _, _ => none
  | k + 1, x1, x5, x102000, x102001 => if x5 < (x102000.length : Int) then (if 0 ≤ x5 then (if (rd x102000 x5) = x1 then (some x5) else (spec_KeyOf.l0 k x1 (wrap64 (x5 + 1)) x102000 x102001)) else (none)) else (some (-1))
def spec_KeyOf.f (k : Nat) (l0_0 : List Int) (a0_1 : Int) (a1 : Int) : Option (Int) := spec_KeyOf.l0 k a1 0 l0_0 a0_1
set_option maxHeartbeats 8000000 in
set_option maxRecDepth 100000 in
theorem spec_KeyOf.calls (k : Nat) (A0_0 : Option Addr) (c0_0 : Nat) (l0_0 : List Int) (a0_1 : Int) (a1 : Int) (r : Int) (w : World) (hr0_0 : Kd.C (Kd.int .i64) w A0_0 l0_0.length l0_0) (hc0_0 : l0_0.length ≤ c0_0) (h : spec_KeyOf.f k l0_0 a0_1 a1 = some r) :
    Calls Tryz.prog 160 #[.agg #[.slice A0_0 l0_0.length c0_0, .int .i64 a0_1], .int .i64 a1] w fun e w' => e = .returned (.int .i64 r) ∧ Below w.heap.size w w' := by
  have hu41 := Tryz.underlying41
  have HR0_0 := aM hr0_0
  have HC0_0 := aM hc0_0
  clear hr0_0 hc0_0
  have HB := aM (Below.refl w.heap.size w)
  have H := h
  unfold spec_KeyOf.f at H
  clear h
  have H' := aM H
  clear H
  go_enter Tryz.func160, Tryz.ntmps160
  go_wp2_with (first | (refine boxE 2 #[.slice A0_0 l0_0.length c0_0, .int .i64 a0_1] 41 ?_; intro gbz1 hg wz1 hbox hb; have BKz1 := aM (hbox); have GWz1 := aG hg HB; have GEz1 := aG hg HB; replace HB := aS HB hb; clear hb hbox hg))
  go_loopg [5] k (fun kq v5 w' => ∃ (x5_1 : Int), v5 = .int .i64 x5_1 ∧ Aside0 (spec_KeyOf.l0 kq a1 x5_1 l0_0 a0_1 = some r) ∧ Aside0 (kq ≤ k) ∧ Aside0 (w'.heap[gbz1]? = some (.cells #[(.slice A0_0 l0_0.length c0_0), .int .i64 a0_1] 41 (0, 0))) ∧ Aside0 (Below w.heap.size w w'))
  case atStart => exact ⟨(0), rS, H', ⟨Nat.le_refl _⟩, ⟨(bX BKz1.out)⟩, ⟨(hX HB.out)⟩⟩
  case round =>
    clear H'
    try clear p2
    obtain ⟨x5_1, rfl, HA, HKy1, BKz1, HB⟩ := hrel
    cases gk with
    | zero => exact absurd HA.out (by simp [spec_KeyOf.l0])
    | succ k1 =>
      have H := HA.out
      clear HA
      simp only [spec_KeyOf.l0] at H
      by_cases c4 : x5_1 < (l0_0.length : Int)
      case neg =>
        rw [if_neg c4] at H
        have c4b0 := decide_eq_false c4
        clear c4
        obtain rfl := sI H
        obtain ⟨hczx1, hczx2, hfzx1, hfzx2⟩ := cZ2 BKz1.out
        go_wp2
        go_ret
        exact ⟨rE, (hX HB.out)⟩
      rw [if_pos c4] at H
      have c4b0 := decide_eq_true c4
      clear c4
      replace H := ifP H; obtain ⟨c5, H⟩ := H
      have c5b0 := decide_eq_true c5
      clear c5
      by_cases c6 : (rd l0_0 x5_1) = a1
      · rw [if_pos c6] at H
        obtain ⟨c6b0, c6b1⟩ := eqT c6
        clear c6
        obtain rfl := sI H
        obtain ⟨hczx1, hczx2, hfzx1, hfzx2⟩ := cZ2 BKz1.out
        have px1 : 0 ≤ (x5_1 : Int) := odA
        have qx1 : x5_1 < (l0_0.length : Int) := odA
        obtain ⟨adx1, ex1, hxx1⟩ := at_ib HR0_0.out HB.out x5_1 px1 qx1
        cases ex1
        replace px1 := eq_true px1
        replace qx1 := eq_true qx1
        go_wp2
        go_ret
        exact ⟨rE, (hX HB.out)⟩
      rw [if_neg c6] at H
      obtain ⟨c6b0, c6b1⟩ := eqF c6
      have H' := aM H
      clear H
      obtain ⟨hczx1, hczx2, hfzx1, hfzx2⟩ := cZ2 BKz1.out
      have px1 : 0 ≤ (x5_1 : Int) := odA
      have qx1 : x5_1 < (l0_0.length : Int) := odA
      obtain ⟨adx1, ex1, hxx1⟩ := at_ib HR0_0.out HB.out x5_1 px1 qx1
      cases ex1
      replace px1 := eq_true px1
      replace qx1 := eq_true qx1
      go_wp2
      go_roundg k1
      case measure => have := HKy1.out; omega
      case rel => exact ⟨(wrap64 (x5_1 + 1)), rS, H', ⟨by have := HKy1.out; omega⟩, ⟨(bX BKz1.out)⟩, ⟨(hX HB.out)⟩⟩
def spec_RowsOk.l0 : Nat → Int → List Int → Int → Option (Bool)
  | 0, _, _, _ => none
  | k + 1, x3, x102000, x102001 => if x3 < (x102000.length : Int) then (if 0 ≤ x3 then (if (rd x102000 x3) = 0 then (spec_RowsOk.l0 k (wrap64 (x3 + 1)) x102000 x102001) else ((spec_ValOk.f (rd x102000 x3)).bind fun t105 => (if t105 = true then ((spec_KeyOf.f k x102000 x102001 (rd x102000 x3)).bind fun t107 => (if t107 = x3 then (spec_RowsOk.l0 k (wrap64 (x3 + 1)) x102000 x102001) else (some false))) else (some false)))) else (none)) else (if (x102000.length : Int) = 4 then ((spec_l1In.f x102001 0 5).bind fun t102 => (some t102)) else (some false))
def spec_RowsOk.f (k : Nat) (l0_0 : List Int) (a0_1 : Int) : Option (Bool) := spec_RowsOk.l0 k 0 l0_0 a0_1
def spec_RowsOk.T4 : Bool × List (List Nat × List Nat) := (true, [([], []), ([0], [0]), ([], []), ([1, 2], [1, 2]), ([3], [3]), ([4], [4]), ([5], [5]), ([6], [6]), ([7, 6], [6, 7]), ([6], [6]), ([8, 9, 6], [6, 8, 9]), ([10, 6], [6, 10]), ([11, 6, 6], [6, 11]), ([12, 6], [6, 12]), ([13, 12, 6], [6, 13]), ([14], [14]), ([14], [14]), ([16, 14], [14, 16]), ([14], [14]), ([17, 18, 14], [14, 17, 18]), ([19, 14], [14, 19]), ([15, 20, 14, 14], [14, 15, 20]), ([14], [14]), ([21, 22, 14], [14, 21, 22]), ([14, 23, 6], [6, 14, 23]), ([6, 24], [6, 24])])
def spec_RowsOk.B4 : List Nat := [0, 1, 0, 7, 15, 31, 63, 127, 255, 127, 1023, 2047, 4095, 8191, 16383, 32767, 32767, 98303, 32767, 491519, 1015807, 2097151, 32767, 8388607, 16777215, 33554431]
theorem spec_RowsOk.tab4 : rtab .any (opsOf Tryz.f93 4) = spec_RowsOk.T4 := by kernel_rfl
theorem spec_RowsOk.bits4 : waitsOk spec_RowsOk.T4.2 spec_RowsOk.B4 = true := by kernel_rfl
set_option maxHeartbeats 8000000 in
set_option maxRecDepth 100000 in
theorem spec_RowsOk.calls (k : Nat) (A0_0 : Option Addr) (c0_0 : Nat) (l0_0 : List Int) (a0_1 : Int) (r : Bool) (w : World) (hr0_0 : Kd.C (Kd.int .i64) w A0_0 l0_0.length l0_0) (hc0_0 : l0_0.length ≤ c0_0) (h : spec_RowsOk.f k l0_0 a0_1 = some r) :
    Calls Tryz.prog 93 #[.agg #[.slice A0_0 l0_0.length c0_0, .int .i64 a0_1]] w fun e w' => e = .returned (.bool r) ∧ Below w.heap.size w w' := by
  have hu41 := Tryz.underlying41
  have HR0_0 := aM hr0_0
  have HC0_0 := aM hc0_0
  clear hr0_0 hc0_0
  have HB := aM (Below.refl w.heap.size w)
  have H := h
  unfold spec_RowsOk.f at H
  clear h
  have H' := aM H
  clear H
  go_enter Tryz.func93, Tryz.ntmps93
  go_wp2_with (first | (refine boxE 1 #[.slice A0_0 l0_0.length c0_0, .int .i64 a0_1] 41 ?_; intro gbz1 hg wz1 hbox hb; have BKz1 := aM (hbox); have GWz1 := aG hg HB; have GEz1 := aG hg HB; replace HB := aS HB hb; clear hb hbox hg))
  go_loopg [3] k (fun kq v3 w' => ∃ (x3_1 : Int), v3 = .int .i64 x3_1 ∧ Aside0 (spec_RowsOk.l0 kq x3_1 l0_0 a0_1 = some r) ∧ Aside0 (kq ≤ k) ∧ Aside0 (w'.heap[gbz1]? = some (.cells #[(.slice A0_0 l0_0.length c0_0), .int .i64 a0_1] 41 (0, 0))) ∧ Aside0 (Below w.heap.size w w'))
  case atStart => exact ⟨(0), rS, H', ⟨Nat.le_refl _⟩, ⟨(bX BKz1.out)⟩, ⟨(hX HB.out)⟩⟩
  case round =>
    clear H'
    try clear p2
    obtain ⟨x3_1, rfl, HA, HKy1, BKz1, HB⟩ := hrel
    cases gk with
    | zero => exact absurd HA.out (by simp [spec_RowsOk.l0])
    | succ k1 =>
      have H := HA.out
      clear HA
      simp only [spec_RowsOk.l0] at H
      by_cases c3 : x3_1 < (l0_0.length : Int)
      case neg =>
        rw [if_neg c3] at H
        have c3b0 := decide_eq_false c3
        clear c3
        by_cases c20 : (l0_0.length : Int) = 4
        case neg =>
          rw [if_neg c20] at H
          obtain ⟨c20b0, c20b1⟩ := eqF c20
          obtain rfl := sI H
          obtain ⟨hczx1, hczx2, hfzx1, hfzx2⟩ := cZ2 BKz1.out
          go_wp2
          go_ret
          exact ⟨rE, (hX HB.out)⟩
        rw [if_pos c20] at H
        obtain ⟨c20b0, c20b1⟩ := eqT c20
        clear c20
        replace H := bE H; obtain ⟨t102, A21, H⟩ := H
        obtain rfl := sI H
        obtain ⟨hczx1, hczx2, hfzx1, hfzx2⟩ := cZ2 BKz1.out
        go_wp2_with (first | (go_at_call 43; (with_reducible refine (spec_l1In.calls _ _ _ _ _ A21.out).mono ?_); rintro e w' ⟨rfl, ⟨nd, rfl⟩⟩))
        go_ret
        exact ⟨rE, (hX HB.out)⟩
      rw [if_pos c3] at H
      have c3b0 := decide_eq_true c3
      clear c3
      replace H := ifP H; obtain ⟨c4, H⟩ := H
      have c4b0 := decide_eq_true c4
      clear c4
      by_cases c5 : (rd l0_0 x3_1) = 0
      · rw [if_pos c5] at H
        obtain ⟨c5b0, c5b1⟩ := eqT c5
        clear c5
        have H' := aM H
        clear H
        obtain ⟨hczx1, hczx2, hfzx1, hfzx2⟩ := cZ2 BKz1.out
        try go_wp2
        replace BKz1 := aM (blk_drew BKz1.out)
        replace HB := aM (below_drew1 HB.out)
        have px1 : 0 ≤ (x3_1 : Int) := odA
        have qx1 : x3_1 < (l0_0.length : Int) := odA
        obtain ⟨adx1, ex1, hxx1⟩ := Kd.at_int HR0_0.out x3_1 px1 qx1
        have hwx1 := hxx1
        cases ex1
        replace hxx1 := bc HB.out hxx1
        replace px1 := eq_true px1
        replace qx1 := eq_true qx1
        refine start_ (n := 26) (S := fun w' => w'.cell? ⟨gbz1, 0, none⟩ = some (.slice (some adx1) l0_0.length c0_0) ∧ w'.cell? ⟨gbz1, 1, none⟩ = some (.int .i64 a0_1) ∧ w'.cell? (adx1.add (x3_1).toNat) = some (.int .i64 (rd l0_0 x3_1))) (ds := []) (bm 26 0) (by kernel_rfl) rfl (by kernel_rfl) ⟨cK BKz1.out 0, cK BKz1.out 1, (bc HB.out hwx1 :)⟩ (fun hHeld => ?_); refine with_tabW spec_RowsOk.tab4 spec_RowsOk.bits4 (fun HT_ HW_ => ?_)
        generalize wr.drew = wx1 at BKz1 HB hxx1 hHeld ⊢
        refine pZ 0 11 (bm 26 1) HT_.out ?_
        refine pZ 2 13 (bm 26 5) HT_.out ?_
        refine tZ 1 12 (bm 26 7) HT_.out HW_.out hHeld ?_
        refine pZ 3 14 (bm 26 15) HT_.out ?_
        refine tZ 4 15 (bm 26 31) HT_.out HW_.out hHeld ?_
        refine pZ 5 16 (bm 26 63) HT_.out ?_
        refine pZ 6 17 (bm 26 127) HT_.out ?_
        refine pU 7 18 (bm 26 255) HT_.out ?_
        refine pU 8 19 (bm 26 511) HT_.out ?_
        refine pU 9 20 (bm 26 1023) HT_.out ?_
        refine pU 10 21 (bm 26 2047) HT_.out ?_
        refine pU 11 22 (bm 26 4095) HT_.out ?_
        refine pU 12 23 (bm 26 8191) HT_.out ?_
        refine pU 13 24 (bm 26 16383) HT_.out ?_
        refine pU 14 25 (bm 26 32767) HT_.out ?_
        refine pU 15 26 (bm 26 65535) HT_.out ?_
        refine pU 16 27 (bm 26 131071) HT_.out ?_
        refine pU 17 28 (bm 26 262143) HT_.out ?_
        refine pU 18 29 (bm 26 524287) HT_.out ?_
        refine pU 19 30 (bm 26 1048575) HT_.out ?_
        refine pU 20 31 (bm 26 2097151) HT_.out ?_
        refine pU 21 32 (bm 26 4194303) HT_.out ?_
        refine pU 22 33 (bm 26 8388607) HT_.out ?_
        refine pU 23 34 (bm 26 16777215) HT_.out ?_
        refine pU 24 35 (bm 26 33554431) HT_.out ?_
        refine pZ 25 36 (bm 26 67108863) HT_.out ?_
        refine done_ (done_of HT_.out (by kernel_rfl)) ?_
        try go_wp2
        go_roundg k1
        case measure => have := HKy1.out; omega
        case rel => exact ⟨(wrap64 (x3_1 + 1)), rS, H', ⟨by have := HKy1.out; omega⟩, ⟨(bX BKz1.out)⟩, ⟨(hX HB.out)⟩⟩
      rw [if_neg c5] at H
      obtain ⟨c5b0, c5b1⟩ := eqF c5
      replace H := bE H; obtain ⟨t105, A8, H⟩ := H
      by_cases c9 : t105 = true
      case neg =>
        replace c9 := Bool.eq_false_iff.mpr c9
        subst c9
        rw [if_neg nft] at H
        obtain rfl := sI H
        obtain ⟨hczx1, hczx2, hfzx1, hfzx2⟩ := cZ2 BKz1.out
        try go_wp2
        replace BKz1 := aM (blk_drew BKz1.out)
        replace HB := aM (below_drew1 HB.out)
        have px1 : 0 ≤ (x3_1 : Int) := odA
        have qx1 : x3_1 < (l0_0.length : Int) := odA
        obtain ⟨adx1, ex1, hxx1⟩ := Kd.at_int HR0_0.out x3_1 px1 qx1
        have hwx1 := hxx1
        cases ex1
        replace hxx1 := bc HB.out hxx1
        replace px1 := eq_true px1
        replace qx1 := eq_true qx1
        have px2 : 0 ≤ (x3_1 : Int) := odA
        have qx2 : x3_1 < (l0_0.length : Int) := odA
        obtain ⟨adx2, ex2, hxx2⟩ := Kd.at_int HR0_0.out x3_1 px2 qx2
        have hwx2 := hxx2
        obtain rfl : adx1 = adx2 := (by injection ex2)
        replace hxx2 := bc HB.out hxx2
        replace px2 := eq_true px2
        replace qx2 := eq_true qx2
        refine start_ (n := 26) (S := fun w' => w'.cell? ⟨gbz1, 0, none⟩ = some (.slice (some adx1) l0_0.length c0_0) ∧ w'.cell? ⟨gbz1, 1, none⟩ = some (.int .i64 a0_1) ∧ w'.cell? (adx1.add (x3_1).toNat) = some (.int .i64 (rd l0_0 x3_1)) ∧ w'.cell? (adx1.add (x3_1).toNat) = some (.int .i64 (rd l0_0 x3_1))) (ds := []) (bm 26 0) (by kernel_rfl) rfl (by kernel_rfl) ⟨cK BKz1.out 0, cK BKz1.out 1, (bc HB.out hwx1 :), (bc HB.out hwx2 :)⟩ (fun hHeld => ?_); refine with_tabW spec_RowsOk.tab4 spec_RowsOk.bits4 (fun HT_ HW_ => ?_)
        generalize wr.drew = wx1 at BKz1 HB hxx1 hxx2 hHeld ⊢
        refine pZ 0 11 (bm 26 1) HT_.out ?_
        refine pZ 2 13 (bm 26 5) HT_.out ?_
        refine tZ 1 12 (bm 26 7) HT_.out HW_.out hHeld ?_
        refine pZ 3 14 (bm 26 15) HT_.out ?_
        refine tZ 4 15 (bm 26 31) HT_.out HW_.out hHeld ?_
        refine pZ 5 16 (bm 26 63) HT_.out ?_
        refine pZ 6 17 (bm 26 127) HT_.out ?_
        refine pZ 7 18 (bm 26 255) HT_.out ?_
        refine pZ 9 20 (bm 26 767) HT_.out ?_
        refine tZ 8 19 (bm 26 1023) HT_.out HW_.out hHeld ?_
        refine pZ 10 21 (bm 26 2047) HT_.out ?_
        refine tZ 11 22 (bm 26 4095) HT_.out HW_.out hHeld ?_
        refine oZ 12 (some 23) (bm 26 8191) HT_.out (fun K hK => ?_)
        refine goesN Tryz.func159 #[.int .i64 (rd l0_0 x3_1)] ?_
        with_reducible refine (spec_ValOk.calls _ _ _ A8.out).mono ?_
        rintro e w' ⟨rfl, ⟨nd, rfl⟩⟩
        refine ⟨_, rfl, ?_⟩
        refine hK.out _ _ ⟨cK BKz1.out 0, cK BKz1.out 1, (bc HB.out hwx1 :), (bc HB.out hwx2 :)⟩ (fun hHeld => ?_)
        clear hK K
        refine nZ 23 ?_
        refine pZ 13 24 (bm 26 16383) HT_.out ?_
        refine pZ 14 25 (bm 26 32767) HT_.out ?_
        refine pU 15 26 (bm 26 65535) HT_.out ?_
        refine pU 16 27 (bm 26 131071) HT_.out ?_
        refine pU 17 28 (bm 26 262143) HT_.out ?_
        refine pU 18 29 (bm 26 524287) HT_.out ?_
        refine pU 19 30 (bm 26 1048575) HT_.out ?_
        refine pU 20 31 (bm 26 2097151) HT_.out ?_
        refine pU 21 32 (bm 26 4194303) HT_.out ?_
        refine pU 22 33 (bm 26 8388607) HT_.out ?_
        refine pU 23 34 (bm 26 16777215) HT_.out ?_
        refine pZ 24 35 (bm 26 33554431) HT_.out ?_
        refine pZ 25 36 (bm 26 67108863) HT_.out ?_
        refine done_ (done_of HT_.out (by kernel_rfl)) ?_
        try go_wp2
        go_ret
        exact ⟨rE, (hX HB.out)⟩
      subst c9
      rw [if_pos rfl] at H
      replace H := bE H; obtain ⟨t107, A10, H⟩ := H
      by_cases c11 : t107 = x3_1
      case neg =>
        rw [if_neg c11] at H
        obtain ⟨c11b0, c11b1⟩ := eqF c11
        obtain rfl := sI H
        obtain ⟨hczx1, hczx2, hfzx1, hfzx2⟩ := cZ2 BKz1.out
        try go_wp2
        replace BKz1 := aM (blk_drew BKz1.out)
        replace HB := aM (below_drew1 HB.out)
        have px1 : 0 ≤ (x3_1 : Int) := odA
        have qx1 : x3_1 < (l0_0.length : Int) := odA
        obtain ⟨adx1, ex1, hxx1⟩ := Kd.at_int HR0_0.out x3_1 px1 qx1
        have hwx1 := hxx1
        cases ex1
        replace hxx1 := bc HB.out hxx1
        replace px1 := eq_true px1
        replace qx1 := eq_true qx1
        have px2 : 0 ≤ (x3_1 : Int) := odA
        have qx2 : x3_1 < (l0_0.length : Int) := odA
        obtain ⟨adx2, ex2, hxx2⟩ := Kd.at_int HR0_0.out x3_1 px2 qx2
        have hwx2 := hxx2
        obtain rfl : adx1 = adx2 := (by injection ex2)
        replace hxx2 := bc HB.out hxx2
        replace px2 := eq_true px2
        replace qx2 := eq_true qx2
        have px3 : 0 ≤ (x3_1 : Int) := odA
        have qx3 : x3_1 < (l0_0.length : Int) := odA
        obtain ⟨adx3, ex3, hxx3⟩ := Kd.at_int HR0_0.out x3_1 px3 qx3
        have hwx3 := hxx3
        obtain rfl : adx1 = adx3 := (by injection ex3)
        replace hxx3 := bc HB.out hxx3
        replace px3 := eq_true px3
        replace qx3 := eq_true qx3
        refine start_ (n := 26) (S := fun w' => w'.cell? ⟨gbz1, 0, none⟩ = some (.slice (some adx1) l0_0.length c0_0) ∧ w'.cell? ⟨gbz1, 1, none⟩ = some (.int .i64 a0_1) ∧ w'.cell? (adx1.add (x3_1).toNat) = some (.int .i64 (rd l0_0 x3_1)) ∧ w'.cell? (adx1.add (x3_1).toNat) = some (.int .i64 (rd l0_0 x3_1)) ∧ w'.cell? (adx1.add (x3_1).toNat) = some (.int .i64 (rd l0_0 x3_1))) (ds := []) (bm 26 0) (by kernel_rfl) rfl (by kernel_rfl) ⟨cK BKz1.out 0, cK BKz1.out 1, (bc HB.out hwx1 :), (bc HB.out hwx2 :), (bc HB.out hwx3 :)⟩ (fun hHeld => ?_); refine with_tabW spec_RowsOk.tab4 spec_RowsOk.bits4 (fun HT_ HW_ => ?_)
        generalize wr.drew = wx1 at BKz1 HB hxx1 hxx2 hxx3 hHeld ⊢
        refine pZ 0 11 (bm 26 1) HT_.out ?_
        refine pZ 2 13 (bm 26 5) HT_.out ?_
        refine tZ 1 12 (bm 26 7) HT_.out HW_.out hHeld ?_
        refine pZ 3 14 (bm 26 15) HT_.out ?_
        refine tZ 4 15 (bm 26 31) HT_.out HW_.out hHeld ?_
        refine pZ 5 16 (bm 26 63) HT_.out ?_
        refine pZ 6 17 (bm 26 127) HT_.out ?_
        refine pZ 7 18 (bm 26 255) HT_.out ?_
        refine pZ 9 20 (bm 26 767) HT_.out ?_
        refine tZ 8 19 (bm 26 1023) HT_.out HW_.out hHeld ?_
        refine pZ 10 21 (bm 26 2047) HT_.out ?_
        refine tZ 11 22 (bm 26 4095) HT_.out HW_.out hHeld ?_
        refine oZ 12 (some 23) (bm 26 8191) HT_.out (fun K hK => ?_)
        refine goesN Tryz.func159 #[.int .i64 (rd l0_0 x3_1)] ?_
        with_reducible refine (spec_ValOk.calls _ _ _ A8.out).mono ?_
        rintro e w' ⟨rfl, ⟨nd, rfl⟩⟩
        refine ⟨_, rfl, ?_⟩
        refine hK.out _ _ ⟨cK BKz1.out 0, cK BKz1.out 1, (bc HB.out hwx1 :), (bc HB.out hwx2 :), (bc HB.out hwx3 :)⟩ (fun hHeld => ?_)
        clear hK K
        refine nZ 23 ?_
        refine pZ 13 24 (bm 26 16383) HT_.out ?_
        refine pZ 14 25 (bm 26 32767) HT_.out ?_
        refine pZ 16 27 (bm 26 98303) HT_.out ?_
        refine pZ 18 29 (bm 26 360447) HT_.out ?_
        refine pZ 22 33 (bm 26 4554751) HT_.out ?_
        refine tZ 15 26 (bm 26 4587519) HT_.out HW_.out hHeld ?_
        refine tZ 17 28 (bm 26 4718591) HT_.out HW_.out hHeld ?_
        refine pZ 19 30 (bm 26 5242879) HT_.out ?_
        refine tZ 20 31 (bm 26 6291455) HT_.out HW_.out hHeld ?_
        refine oZ 21 (some 32) (bm 26 8388607) HT_.out (fun K hK => ?_)
        refine goesN Tryz.func160 #[.agg #[.slice (some adx1) l0_0.length c0_0, .int .i64 a0_1], .int .i64 (rd l0_0 x3_1)] ?_
        with_reducible refine (spec_KeyOf.calls _ _ _ _ _ _ _ _ ?side1 ?side2 A10.out).mono ?_
        (case side1 => repeat (first | exact (Kd.C_below HR0_0.out (hX HB.out)) | (with_reducible refine Kd.C_alloc ?_ _) | (with_reducible refine Kd.C_drewN ?_ _) | (with_reducible refine Kd.C_drew ?_)))
        (case side2 => exact HC0_0.out)
        rintro e wx2 ⟨rfl, hb⟩
        refine ⟨_, rfl, ?_⟩
        replace BKz1 := aB BKz1 hb
        replace HB := aS HB hb
        (try clear hb)
        (try clear hb2)
        (try clear hk)
        (try clear hi)
        refine hK.out _ _ ⟨cK BKz1.out 0, cK BKz1.out 1, (bc HB.out hwx1 :), (bc HB.out hwx2 :), (bc HB.out hwx3 :)⟩ (fun hHeld => ?_)
        clear hK K
        refine nZ 32 ?_
        refine pZ 23 34 (bm 26 16777215) HT_.out ?_
        refine pZ 24 35 (bm 26 33554431) HT_.out ?_
        refine pZ 25 36 (bm 26 67108863) HT_.out ?_
        refine done_ (done_of HT_.out (by kernel_rfl)) ?_
        try go_wp2
        go_ret
        exact ⟨rE, (hX HB.out)⟩
      rw [if_pos c11] at H
      obtain ⟨c11b0, c11b1⟩ := eqT c11
      clear c11
      have H' := aM H
      clear H
      obtain ⟨hczx1, hczx2, hfzx1, hfzx2⟩ := cZ2 BKz1.out
      try go_wp2
      replace BKz1 := aM (blk_drew BKz1.out)
      replace HB := aM (below_drew1 HB.out)
      have px1 : 0 ≤ (x3_1 : Int) := odA
      have qx1 : x3_1 < (l0_0.length : Int) := odA
      obtain ⟨adx1, ex1, hxx1⟩ := Kd.at_int HR0_0.out x3_1 px1 qx1
      have hwx1 := hxx1
      cases ex1
      replace hxx1 := bc HB.out hxx1
      replace px1 := eq_true px1
      replace qx1 := eq_true qx1
      have px2 : 0 ≤ (x3_1 : Int) := odA
      have qx2 : x3_1 < (l0_0.length : Int) := odA
      obtain ⟨adx2, ex2, hxx2⟩ := Kd.at_int HR0_0.out x3_1 px2 qx2
      have hwx2 := hxx2
      obtain rfl : adx1 = adx2 := (by injection ex2)
      replace hxx2 := bc HB.out hxx2
      replace px2 := eq_true px2
      replace qx2 := eq_true qx2
      have px3 : 0 ≤ (x3_1 : Int) := odA
      have qx3 : x3_1 < (l0_0.length : Int) := odA
      obtain ⟨adx3, ex3, hxx3⟩ := Kd.at_int HR0_0.out x3_1 px3 qx3
      have hwx3 := hxx3
      obtain rfl : adx1 = adx3 := (by injection ex3)
      replace hxx3 := bc HB.out hxx3
      replace px3 := eq_true px3
      replace qx3 := eq_true qx3
      refine start_ (n := 26) (S := fun w' => w'.cell? ⟨gbz1, 0, none⟩ = some (.slice (some adx1) l0_0.length c0_0) ∧ w'.cell? ⟨gbz1, 1, none⟩ = some (.int .i64 a0_1) ∧ w'.cell? (adx1.add (x3_1).toNat) = some (.int .i64 (rd l0_0 x3_1)) ∧ w'.cell? (adx1.add (x3_1).toNat) = some (.int .i64 (rd l0_0 x3_1)) ∧ w'.cell? (adx1.add (x3_1).toNat) = some (.int .i64 (rd l0_0 x3_1))) (ds := []) (bm 26 0) (by kernel_rfl) rfl (by kernel_rfl) ⟨cK BKz1.out 0, cK BKz1.out 1, (bc HB.out hwx1 :), (bc HB.out hwx2 :), (bc HB.out hwx3 :)⟩ (fun hHeld => ?_); refine with_tabW spec_RowsOk.tab4 spec_RowsOk.bits4 (fun HT_ HW_ => ?_)
      generalize wr.drew = wx1 at BKz1 HB hxx1 hxx2 hxx3 hHeld ⊢
      refine pZ 0 11 (bm 26 1) HT_.out ?_
      refine pZ 2 13 (bm 26 5) HT_.out ?_
      refine tZ 1 12 (bm 26 7) HT_.out HW_.out hHeld ?_
      refine pZ 3 14 (bm 26 15) HT_.out ?_
      refine tZ 4 15 (bm 26 31) HT_.out HW_.out hHeld ?_
      refine pZ 5 16 (bm 26 63) HT_.out ?_
      refine pZ 6 17 (bm 26 127) HT_.out ?_
      refine pZ 7 18 (bm 26 255) HT_.out ?_
      refine pZ 9 20 (bm 26 767) HT_.out ?_
      refine tZ 8 19 (bm 26 1023) HT_.out HW_.out hHeld ?_
      refine pZ 10 21 (bm 26 2047) HT_.out ?_
      refine tZ 11 22 (bm 26 4095) HT_.out HW_.out hHeld ?_
      refine oZ 12 (some 23) (bm 26 8191) HT_.out (fun K hK => ?_)
      refine goesN Tryz.func159 #[.int .i64 (rd l0_0 x3_1)] ?_
      with_reducible refine (spec_ValOk.calls _ _ _ A8.out).mono ?_
      rintro e w' ⟨rfl, ⟨nd, rfl⟩⟩
      refine ⟨_, rfl, ?_⟩
      refine hK.out _ _ ⟨cK BKz1.out 0, cK BKz1.out 1, (bc HB.out hwx1 :), (bc HB.out hwx2 :), (bc HB.out hwx3 :)⟩ (fun hHeld => ?_)
      clear hK K
      refine nZ 23 ?_
      refine pZ 13 24 (bm 26 16383) HT_.out ?_
      refine pZ 14 25 (bm 26 32767) HT_.out ?_
      refine pZ 16 27 (bm 26 98303) HT_.out ?_
      refine pZ 18 29 (bm 26 360447) HT_.out ?_
      refine pZ 22 33 (bm 26 4554751) HT_.out ?_
      refine tZ 15 26 (bm 26 4587519) HT_.out HW_.out hHeld ?_
      refine tZ 17 28 (bm 26 4718591) HT_.out HW_.out hHeld ?_
      refine pZ 19 30 (bm 26 5242879) HT_.out ?_
      refine tZ 20 31 (bm 26 6291455) HT_.out HW_.out hHeld ?_
      refine oZ 21 (some 32) (bm 26 8388607) HT_.out (fun K hK => ?_)
      refine goesN Tryz.func160 #[.agg #[.slice (some adx1) l0_0.length c0_0, .int .i64 a0_1], .int .i64 (rd l0_0 x3_1)] ?_
      with_reducible refine (spec_KeyOf.calls _ _ _ _ _ _ _ _ ?side1 ?side2 A10.out).mono ?_
      (case side1 => repeat (first | exact (Kd.C_below HR0_0.out (hX HB.out)) | (with_reducible refine Kd.C_alloc ?_ _) | (with_reducible refine Kd.C_drewN ?_ _) | (with_reducible refine Kd.C_drew ?_)))
      (case side2 => exact HC0_0.out)
      rintro e wx2 ⟨rfl, hb⟩
      refine ⟨_, rfl, ?_⟩
      replace BKz1 := aB BKz1 hb
      replace HB := aS HB hb
      (try clear hb)
      (try clear hb2)
      (try clear hk)
      (try clear hi)
      refine hK.out _ _ ⟨cK BKz1.out 0, cK BKz1.out 1, (bc HB.out hwx1 :), (bc HB.out hwx2 :), (bc HB.out hwx3 :)⟩ (fun hHeld => ?_)
      clear hK K
      refine nZ 32 ?_
      refine pZ 23 34 (bm 26 16777215) HT_.out ?_
      refine pZ 24 35 (bm 26 33554431) HT_.out ?_
      refine pZ 25 36 (bm 26 67108863) HT_.out ?_
      refine done_ (done_of HT_.out (by kernel_rfl)) ?_
      try go_wp2
      go_roundg k1
      case measure => have := HKy1.out; omega
      case rel => exact ⟨(wrap64 (x3_1 + 1)), rS, H', ⟨by have := HKy1.out; omega⟩, ⟨(bX BKz1.out)⟩, ⟨(hX HB.out)⟩⟩
def spec_l4Key.f (a0 : Int) : Option (Bool) := (spec_l1In.f a0 1 4).bind fun t101 => (some t101)
set_option maxHeartbeats 8000000 in
set_option maxRecDepth 100000 in
theorem spec_l4Key.calls (a0 : Int) (r : Bool) (w : World) (h : spec_l4Key.f a0 = some r) :
    Calls Tryz.prog 192 #[.int .i64 a0] w fun e w' => e = .returned (.bool r) ∧ Drawn0 w w' := by
  have H := h
  unfold spec_l4Key.f at H
  clear h
  replace H := bE H; obtain ⟨t101, A2, H⟩ := H
  obtain rfl := sI H
  go_enter Tryz.func192, Tryz.ntmps192
  go_wp2_with (first | (refine goesM 43 4 Tryz.func43 #[.int .i64 a0, .int .i64 1, .int .i64 4] ?_; refine (spec_l1In.calls _ _ _ _ _ A2.out).mono ?_; rintro e w' ⟨rfl, ⟨nd, rfl⟩⟩; refine ⟨_, rfl, ?_⟩))
  go_ret
  exact ⟨by first | rfl | (simp; done) | (simp [*]; done), dX⟩
def spec_l4Val.f (a0 : Int) : Option (Bool) := if a0 = 1 then (some true) else (if a0 = 2 then (some true) else (if a0 = 5 then (some true) else (some (a0 == 10))))
set_option maxHeartbeats 8000000 in
set_option maxRecDepth 100000 in
theorem spec_l4Val.calls (a0 : Int) (r : Bool) (w : World) (h : spec_l4Val.f a0 = some r) :
    Calls Tryz.prog 193 #[.int .i64 a0] w fun e w' => e = .returned (.bool r) ∧ Drawn0 w w' := by
  have H := h
  unfold spec_l4Val.f at H
  clear h
  go_enter Tryz.func193, Tryz.ntmps193
  by_cases c2 : a0 = 1
  · rw [if_pos c2] at H
    obtain ⟨c2b0, c2b1⟩ := eqT c2
    clear c2
    obtain rfl := sI H
    go_wp2
    go_ret
    exact ⟨by first | rfl | (simp; done) | (simp [*]; done), dX⟩
  rw [if_neg c2] at H
  obtain ⟨c2b0, c2b1⟩ := eqF c2
  by_cases c3 : a0 = 2
  · rw [if_pos c3] at H
    obtain ⟨c3b0, c3b1⟩ := eqT c3
    clear c3
    obtain rfl := sI H
    go_wp2
    go_ret
    exact ⟨by first | rfl | (simp; done) | (simp [*]; done), dX⟩
  rw [if_neg c3] at H
  obtain ⟨c3b0, c3b1⟩ := eqF c3
  by_cases c4 : a0 = 5
  case neg =>
    rw [if_neg c4] at H
    obtain ⟨c4b0, c4b1⟩ := eqF c4
    obtain rfl := sI H
    go_wp2
    go_ret
    exact ⟨by first | rfl | (simp; done) | (simp [*]; done), dX⟩
  rw [if_pos c4] at H
  obtain ⟨c4b0, c4b1⟩ := eqT c4
  clear c4
  obtain rfl := sI H
  go_wp2
  go_ret
  exact ⟨by first | rfl | (simp; done) | (simp [*]; done), dX⟩
def spec_KeyOk.f (a0 : Int) : Option (Bool) := (spec_l1In.f a0 0 3).bind fun t101 => (some t101)
set_option maxHeartbeats 8000000 in
set_option maxRecDepth 100000 in
theorem spec_KeyOk.calls (a0 : Int) (r : Bool) (w : World) (h : spec_KeyOk.f a0 = some r) :
    Calls Tryz.prog 198 #[.int .i64 a0] w fun e w' => e = .returned (.bool r) ∧ Drawn0 w w' := by
  have H := h
  unfold spec_KeyOk.f at H
  clear h
  replace H := bE H; obtain ⟨t101, A2, H⟩ := H
  obtain rfl := sI H
  go_enter Tryz.func198, Tryz.ntmps198
  go_wp2_with (first | (refine goesM 43 4 Tryz.func43 #[.int .i64 a0, .int .i64 0, .int .i64 3] ?_; refine (spec_l1In.calls _ _ _ _ _ A2.out).mono ?_; rintro e w' ⟨rfl, ⟨nd, rfl⟩⟩; refine ⟨_, rfl, ?_⟩))
  go_ret
  exact ⟨by first | rfl | (simp; done) | (simp [*]; done), dX⟩
mutual
def spec_OpOk.j0 : Nat → Bool → Int → Int → Int → Option (Bool)
  | 0, _, _, _, _ => none
  | k + 1, x3, x102000, x102001, x102002 => if x102000 = 6 then ((spec_l1In.f x102001 0 2).bind fun t105 => (spec_OpOk.j1 k t105 x102000 x102001 x102002)) else (spec_OpOk.j1 k x3 x102000 x102001 x102002)
def spec_OpOk.j1 : Nat → Bool → Int → Int → Int → Option (Bool)
  | 0, _, _, _, _ => none
  | k + 1, x3, x102000, x102001, x102002 => (spec_l4Val.f x102000).bind fun t106 => (if t106 = true then (if x3 = true then ((spec_ValOk.f x102002).bind fun t107 => (some t107)) else (some false)) else (if x3 = true then (some (x102002 == 0)) else (some false)))
end
def spec_OpOk.f (k : Nat) (a0_0 : Int) (a0_1 : Int) (a0_2 : Int) : Option (Bool) := (spec_l1In.f a0_0 1 10).bind fun t102 => (if t102 = true then ((spec_l4Key.f a0_0).bind fun t103 => (if t103 = true then ((spec_KeyOk.f a0_1).bind fun t104 => (spec_OpOk.j0 k t104 a0_0 a0_1 a0_2)) else (spec_OpOk.j0 k (a0_1 == 0) a0_0 a0_1 a0_2))) else (some false))
set_option maxHeartbeats 8000000 in
set_option maxRecDepth 100000 in
theorem spec_OpOk.calls (k : Nat) (a0_0 : Int) (a0_1 : Int) (a0_2 : Int) (r : Bool) (w : World) (h : spec_OpOk.f k a0_0 a0_1 a0_2 = some r) :
    Calls Tryz.prog 138 #[.agg #[.int .i64 a0_0, .int .i64 a0_1, .int .i64 a0_2]] w fun e w' => e = .returned (.bool r) ∧ Below w.heap.size w w' := by
  have hu69 := Tryz.underlying69
  have HB := aM (Below.refl w.heap.size w)
  have H := h
  unfold spec_OpOk.f at H
  clear h
  replace H := bE H; obtain ⟨t102, A2, H⟩ := H
  go_enter Tryz.func138, Tryz.ntmps138
  by_cases c3 : t102 = true
  case neg =>
    replace c3 := Bool.eq_false_iff.mpr c3
    subst c3
    rw [if_neg nft] at H
    obtain rfl := sI H
    go_wp2_with (first | (refine boxE 1 #[.int .i64 a0_0, .int .i64 a0_1, .int .i64 a0_2] 69 ?_; intro gbz1 hg wz1 hbox hb; have BKz1 := aM (hbox); have GWz1 := aG hg HB; have GEz1 := aG hg HB; replace HB := aS HB hb; clear hb hbox hg; obtain ⟨hczz1, hczz2, hczz3, hfzz1, hfzz2, hfzz3⟩ := cZ3 BKz1.out) | (refine goesM 43 6 Tryz.func43 #[.int .i64 a0_0, .int .i64 1, .int .i64 10] ?_; refine (spec_l1In.calls _ _ _ _ _ A2.out).mono ?_; rintro e w' ⟨rfl, ⟨nd, rfl⟩⟩; refine ⟨_, rfl, ?_⟩))
    go_ret
    exact ⟨rE, (hX HB.out)⟩
  subst c3
  rw [if_pos rfl] at H
  replace H := bE H; obtain ⟨t103, A4, H⟩ := H
  have HC5 := aM H
  clear H
  go_upto_if 13 with (first | ((with_reducible refine gate_dst (N := 1) rfl ?_); refine boxE 1 #[.int .i64 a0_0, .int .i64 a0_1, .int .i64 a0_2] 69 ?_; intro gbz1 hg wz1 hbox hb; have BKz1 := aM (hbox); have GWz1 := aG hg HB; have GEz1 := aG hg HB; replace HB := aS HB hb; clear hb hbox hg; obtain ⟨hczz1, hczz2, hczz3, hfzz1, hfzz2, hfzz3⟩ := cZ3 BKz1.out) | ((with_reducible refine gate_callee (f := 43) rfl ?_); refine goesM 43 6 Tryz.func43 #[.int .i64 a0_0, .int .i64 1, .int .i64 10] ?_; refine (spec_l1In.calls _ _ _ _ _ A2.out).mono ?_; rintro e w' ⟨rfl, ⟨nd, rfl⟩⟩; refine ⟨_, rfl, ?_⟩) | ((with_reducible refine gate_callee (f := 192) rfl ?_); refine goesM 192 13 Tryz.func192 #[.int .i64 a0_0] ?_; refine (spec_l4Key.calls _ _ _ A4.out).mono ?_; rintro e w' ⟨rfl, ⟨nd, rfl⟩⟩; refine ⟨_, rfl, ?_⟩))
  (try simp only [Act.put, List.setIfInBounds_toArray, List.set_cons_zero, List.set_cons_succ])
  go_cut [3] (fun vz1 wc => ∃ (kq : Nat) (x3_4 : Bool), vz1 = .bool x3_4 ∧ Aside0 (spec_OpOk.j0 kq x3_4 a0_0 a0_1 a0_2 = some r) ∧ Aside0 (kq ≤ k) ∧ Aside0 (wc.heap[gbz1]? = some (.cells #[.int .i64 a0_0, .int .i64 a0_1, .int .i64 a0_2] 69 (0, 0))) ∧ Aside0 (Below w.heap.size w wc))
  case first =>
    have H := HC5.out
    clear HC5
    by_cases c8 : t103 = true
    case neg =>
      replace c8 := Bool.eq_false_iff.mpr c8
      subst c8
      rw [if_neg nft] at H
      have H' := aM H
      clear H
      go_wp2
      go_meet
      case rel => exact ⟨_, ((a0_1 == 0)), rS, H', ⟨by first | omega | exact Nat.le_refl _⟩, ⟨(bX BKz1.out)⟩, ⟨(hX HB.out)⟩⟩
    subst c8
    rw [if_pos rfl] at H
    replace H := bE H; obtain ⟨t104, A9, H⟩ := H
    have H' := aM H
    clear H
    obtain ⟨hczy1, hczy2, hczy3, hfzy1, hfzy2, hfzy3⟩ := cZ3 BKz1.out
    go_wp2_with (first | (refine goesM 198 16 Tryz.func198 #[.int .i64 a0_1] ?_; refine (spec_KeyOk.calls _ _ _ A9.out).mono ?_; rintro e w' ⟨rfl, ⟨nd, rfl⟩⟩; refine ⟨_, rfl, ?_⟩))
    go_meet
    case rel => exact ⟨_, (t104), rS, H', ⟨by first | omega | exact Nat.le_refl _⟩, ⟨(bX BKz1.out)⟩, ⟨(hX HB.out)⟩⟩
  case rest =>
    clear HC5
    try clear p2
    try clear c3
    try clear hczz1 hczz2 hczz3 hfzz1 hfzz2 hfzz3
    obtain ⟨kq, x3_4, rfl, HA, HJy1, BKz1, HB⟩ := hcut
    cases kq with
    | zero => exact absurd HA.out (by simp [spec_OpOk.j0])
    | succ kj4 =>
      have H := HA.out
      clear HA
      simp only [spec_OpOk.j0] at H
      have HC11 := aM H
      clear H
      obtain ⟨hczx1, hczx2, hczx3, hfzx1, hfzx2, hfzx3⟩ := cZ3 BKz1.out
      go_upto_if 19 with (fail)
      go_cut [3] (fun vz1 wc => ∃ (kq : Nat) (x3_10 : Bool), vz1 = .bool x3_10 ∧ Aside0 (spec_OpOk.j1 kq x3_10 a0_0 a0_1 a0_2 = some r) ∧ Aside0 (kq ≤ kj4) ∧ Aside0 (wc.heap[gbz1]? = some (.cells #[.int .i64 a0_0, .int .i64 a0_1, .int .i64 a0_2] 69 (0, 0))) ∧ Aside0 (Below w.heap.size w wc))
      case first =>
        have H := HC11.out
        clear HC11
        by_cases c13 : a0_0 = 6
        case neg =>
          rw [if_neg c13] at H
          obtain ⟨c13b0, c13b1⟩ := eqF c13
          (first | rw [c13b0] | (simp only [i64_w, i32_w]; rw [c13b0]) | skip)
          have H' := aM H
          clear H
          go_wp2
          go_meet
          case rel => exact ⟨_, (x3_4), rS, H', ⟨by have := HJy1.out; first | omega | exact Nat.le_refl _⟩, ⟨(bX BKz1.out)⟩, ⟨(hX HB.out)⟩⟩
        rw [if_pos c13] at H
        obtain ⟨c13b0, c13b1⟩ := eqT c13
        clear c13
        (first | rw [c13b0] | (simp only [i64_w, i32_w]; rw [c13b0]) | skip)
        replace H := bE H; obtain ⟨t105, A14, H⟩ := H
        have H' := aM H
        clear H
        obtain ⟨hczw1, hczw2, hczw3, hfzw1, hfzw2, hfzw3⟩ := cZ3 BKz1.out
        go_wp2_with (first | (refine goesM 43 22 Tryz.func43 #[.int .i64 a0_1, .int .i64 0, .int .i64 2] ?_; refine (spec_l1In.calls _ _ _ _ _ A14.out).mono ?_; rintro e w' ⟨rfl, ⟨nd, rfl⟩⟩; refine ⟨_, rfl, ?_⟩))
        go_meet
        case rel => exact ⟨_, (t105), rS, H', ⟨by have := HJy1.out; first | omega | exact Nat.le_refl _⟩, ⟨(bX BKz1.out)⟩, ⟨(hX HB.out)⟩⟩
      case rest =>
        clear HC11
        try clear p2
        try clear c3
        try clear hczx1 hczx2 hczx3 hfzx1 hfzx2 hfzx3
        try clear hczz1 hczz2 hczz3 hfzz1 hfzz2 hfzz3
        obtain ⟨kq, x3_10, rfl, HA, HJw1, BKz1, HB⟩ := hcut
        cases kq with
        | zero => exact absurd HA.out (by simp [spec_OpOk.j1])
        | succ kj10 =>
          have H := HA.out
          clear HA
          simp only [spec_OpOk.j1] at H
          replace H := bE H; obtain ⟨t106, A16, H⟩ := H
          by_cases c17 : t106 = true
          case neg =>
            replace c17 := Bool.eq_false_iff.mpr c17
            subst c17
            rw [if_neg nft] at H
            obtain ⟨hczv1, hczv2, hczv3, hfzv1, hfzv2, hfzv3⟩ := cZ3 BKz1.out
            go_wp2_with (first | (refine goesM 193 25 Tryz.func193 #[.int .i64 a0_0] ?_; refine (spec_l4Val.calls _ _ _ A16.out).mono ?_; rintro e w' ⟨rfl, ⟨nd, rfl⟩⟩; refine ⟨_, rfl, ?_⟩; refine Stop.out ?_))
            refine ⟨?_⟩
            by_cases c22 : x3_10 = true
            · subst c22
              rw [if_pos rfl] at H
              obtain rfl := sI H
              go_wp2
              go_ret
              exact ⟨rE, (hX HB.out)⟩
            replace c22 := Bool.eq_false_iff.mpr c22
            subst c22
            rw [if_neg nft] at H
            obtain rfl := sI H
            go_wp2
            go_ret
            exact ⟨rE, (hX HB.out)⟩
          subst c17
          rw [if_pos rfl] at H
          obtain ⟨hczv1, hczv2, hczv3, hfzv1, hfzv2, hfzv3⟩ := cZ3 BKz1.out
          go_wp2_with (first | (refine goesM 193 25 Tryz.func193 #[.int .i64 a0_0] ?_; refine (spec_l4Val.calls _ _ _ A16.out).mono ?_; rintro e w' ⟨rfl, ⟨nd, rfl⟩⟩; refine ⟨_, rfl, ?_⟩; refine Stop.out ?_))
          refine ⟨?_⟩
          by_cases c18 : x3_10 = true
          case neg =>
            replace c18 := Bool.eq_false_iff.mpr c18
            subst c18
            rw [if_neg nft] at H
            obtain rfl := sI H
            go_wp2
            go_ret
            exact ⟨rE, (hX HB.out)⟩
          subst c18
          rw [if_pos rfl] at H
          replace H := bE H; obtain ⟨t107, A19, H⟩ := H
          obtain rfl := sI H
          go_wp2_with (first | (go_at_call 159; (with_reducible refine (spec_ValOk.calls _ _ _ A19.out).mono ?_); rintro e w' ⟨rfl, ⟨nd, rfl⟩⟩))
          go_ret
          exact ⟨rE, (hX HB.out)⟩
def spec_l9Call.f (k : Nat) (l0_0 : List (S140)) (l0_1 : List (S162)) (l0_2 : List (S97)) (a0_3 : Int) (l0_4 : List (S73)) (l0_5 : List Int) (l0_6 : List Int) (a0_7 : Int) (a1_0 : Int) (a1_1 : Int) (a1_2 : Int) (a1_3 : Int) (a1_4 : Int) (a1_5 : Int) (a1_6 : Int) (a1_7 : Int) (l1_8 : List Int) : Option (Bool) := (spec_l1In.f a1_0 0 (wrap64 ((l0_2.length : Int) - 1))).bind fun t103 => (if t103 = true then ((spec_OpOk.f k a1_1 a1_2 a1_3).bind fun t104 => (if t104 = true then ((spec_l1In.f a1_4 0 a0_3).bind fun t105 => (if t105 = true then (if a1_5 = (-1) then (if a1_6 = (-1) then (some true) else ((spec_l1In.f a1_6 a1_4 a0_3).bind fun t106 => (some t106))) else ((spec_l1In.f a1_5 a1_4 a0_3).bind fun t107 => (if t107 = true then (if a1_6 = (-1) then (some true) else ((spec_l1In.f a1_6 a1_4 a0_3).bind fun t108 => (some t108))) else (some false)))) else (some false))) else (some false))) else (some false))
set_option maxHeartbeats 8000000 in
set_option maxRecDepth 100000 in
theorem spec_l9Call.calls (k : Nat) (A0_0 : Option Addr) (c0_0 : Nat) (l0_0 : List (S140)) (A0_1 : Option Addr) (c0_1 : Nat) (l0_1 : List (S162)) (A0_2 : Option Addr) (c0_2 : Nat) (l0_2 : List (S97)) (a0_3 : Int) (A0_4 : Option Addr) (c0_4 : Nat) (l0_4 : List (S73)) (A0_5 : Option Addr) (c0_5 : Nat) (l0_5 : List Int) (A0_6 : Option Addr) (c0_6 : Nat) (l0_6 : List Int) (a0_7 : Int) (a1_0 : Int) (a1_1 : Int) (a1_2 : Int) (a1_3 : Int) (a1_4 : Int) (a1_5 : Int) (a1_6 : Int) (a1_7 : Int) (A1_8 : Option Addr) (c1_8 : Nat) (l1_8 : List Int) (r : Bool) (w : World) (hr0_0 : Kd.C k140 w A0_0 l0_0.length l0_0) (hc0_0 : l0_0.length ≤ c0_0) (hr0_1 : Kd.C k162 w A0_1 l0_1.length l0_1) (hc0_1 : l0_1.length ≤ c0_1) (hr0_2 : Kd.C k97 w A0_2 l0_2.length l0_2) (hc0_2 : l0_2.length ≤ c0_2) (hr0_4 : Kd.C k73 w A0_4 l0_4.length l0_4) (hc0_4 : l0_4.length ≤ c0_4) (hr0_5 : Kd.C (Kd.int .i64) w A0_5 l0_5.length l0_5) (hc0_5 : l0_5.length ≤ c0_5) (hr0_6 : Kd.C (Kd.int .i64) w A0_6 l0_6.length l0_6) (hc0_6 : l0_6.length ≤ c0_6) (hr1_8 : Kd.C (Kd.int .i64) w A1_8 l1_8.length l1_8) (hc1_8 : l1_8.length ≤ c1_8) (h : spec_l9Call.f k l0_0 l0_1 l0_2 a0_3 l0_4 l0_5 l0_6 a0_7 a1_0 a1_1 a1_2 a1_3 a1_4 a1_5 a1_6 a1_7 l1_8 = some r) :
    Calls Tryz.prog 161 #[.agg #[.slice A0_0 l0_0.length c0_0, .slice A0_1 l0_1.length c0_1, .slice A0_2 l0_2.length c0_2, .int .i64 a0_3, .slice A0_4 l0_4.length c0_4, .slice A0_5 l0_5.length c0_5, .slice A0_6 l0_6.length c0_6, .int .i64 a0_7], .agg #[.int .i64 a1_0, .int .i64 a1_1, .int .i64 a1_2, .int .i64 a1_3, .int .i64 a1_4, .int .i64 a1_5, .int .i64 a1_6, .int .i64 a1_7, .slice A1_8 l1_8.length c1_8]] w fun e w' => e = .returned (.bool r) ∧ Below w.heap.size w w' := by
  have hu43 := Tryz.underlying43
  have hu73 := Tryz.underlying73
  have hu69 := Tryz.underlying69
  have HR0_0 := aM hr0_0
  have HC0_0 := aM hc0_0
  clear hr0_0 hc0_0
  have HR0_1 := aM hr0_1
  have HC0_1 := aM hc0_1
  clear hr0_1 hc0_1
  have HR0_2 := aM hr0_2
  have HC0_2 := aM hc0_2
  clear hr0_2 hc0_2
  have HR0_4 := aM hr0_4
  have HC0_4 := aM hc0_4
  clear hr0_4 hc0_4
  have HR0_5 := aM hr0_5
  have HC0_5 := aM hc0_5
  clear hr0_5 hc0_5
  have HR0_6 := aM hr0_6
  have HC0_6 := aM hc0_6
  clear hr0_6 hc0_6
  have HR1_8 := aM hr1_8
  have HC1_8 := aM hc1_8
  clear hr1_8 hc1_8
  have HB := aM (Below.refl w.heap.size w)
  have H := h
  unfold spec_l9Call.f at H
  clear h
  replace H := bE H; obtain ⟨t103, A3, H⟩ := H
  go_enter Tryz.func161, Tryz.ntmps161
  go_wp2_with (first | ((with_reducible refine gate_dst (N := 2) rfl ?_); refine boxE 2 #[.slice A0_0 l0_0.length c0_0, .slice A0_1 l0_1.length c0_1, .slice A0_2 l0_2.length c0_2, .int .i64 a0_3, .slice A0_4 l0_4.length c0_4, .slice A0_5 l0_5.length c0_5, .slice A0_6 l0_6.length c0_6, .int .i64 a0_7] 43 ?_; intro gbz1 hg wz1 hbox hb; have BKz1 := aM (hbox); have GWz1 := aG hg HB; have GEz1 := aG hg HB; replace HB := aS HB hb; clear hb hbox hg) | ((with_reducible refine gate_dst (N := 3) rfl ?_); refine boxE 3 #[.int .i64 a1_0, .int .i64 a1_1, .int .i64 a1_2, .int .i64 a1_3, .int .i64 a1_4, .int .i64 a1_5, .int .i64 a1_6, .int .i64 a1_7, .slice A1_8 l1_8.length c1_8] 73 ?_; intro gbz2 hg wz2 hbox hb; have BKz2 := aM (hbox); have GWz2 := aG hg HB; have GEz2 := aG hg HB; have NBz1 := aL hg BKz1; have NBz2 := aR hg BKz1; replace BKz1 := aB BKz1 hb; replace HB := aS HB hb; clear hb hbox hg; have hnbz1 := NBz2.out; have hncz1 := NBz1.out; obtain ⟨hczz1, hczz2, hczz3, hczz4, hczz5, hczz6, hczz7, hczz8, hczz9, hfzz1, hfzz2, hfzz3, hfzz4, hfzz5, hfzz6, hfzz7, hfzz8, hfzz9⟩ := cZ9 BKz2.out; obtain ⟨hczz10, hczz11, hczz12, hczz13, hczz14, hczz15, hczz16, hczz17, hfzz10, hfzz11, hfzz12, hfzz13, hfzz14, hfzz15, hfzz16, hfzz17⟩ := cZ8 BKz1.out; refine Stop.out ?_))
  refine ⟨?_⟩
  by_cases c4 : t103 = true
  case neg =>
    replace c4 := Bool.eq_false_iff.mpr c4
    subst c4
    rw [if_neg nft] at H
    obtain rfl := sI H
    go_wp2_with (first | ((with_reducible refine gate_callee (f := 43) rfl ?_); refine goesM 43 11 Tryz.func43 #[.int .i64 a1_0, .int .i64 0, .int .i64 (wrap64 ((l0_2.length : Int) - 1))] ?_; refine (spec_l1In.calls _ _ _ _ _ A3.out).mono ?_; rintro e w' ⟨rfl, ⟨nd, rfl⟩⟩; refine ⟨_, rfl, ?_⟩))
    go_ret
    exact ⟨rE, (hX HB.out)⟩
  subst c4
  rw [if_pos rfl] at H
  replace H := bE H; obtain ⟨t104, A5, H⟩ := H
  go_wp2_with (first | ((with_reducible refine gate_callee (f := 43) rfl ?_); refine goesM 43 11 Tryz.func43 #[.int .i64 a1_0, .int .i64 0, .int .i64 (wrap64 ((l0_2.length : Int) - 1))] ?_; refine (spec_l1In.calls _ _ _ _ _ A3.out).mono ?_; rintro e w' ⟨rfl, ⟨nd, rfl⟩⟩; refine ⟨_, rfl, ?_⟩; refine Stop.out ?_))
  refine ⟨?_⟩
  by_cases c6 : t104 = true
  case neg =>
    replace c6 := Bool.eq_false_iff.mpr c6
    subst c6
    rw [if_neg nft] at H
    obtain rfl := sI H
    go_wp2_with (first | (go_at_call 138; (with_reducible refine (spec_OpOk.calls _ _ _ _ _ _ A5.out).mono ?_); rintro e wz3 ⟨rfl, hb⟩; replace BKz1 := aB BKz1 hb; replace BKz2 := aB BKz2 hb; replace HB := aS HB hb; clear hb))
    go_ret
    exact ⟨rE, (hX HB.out)⟩
  subst c6
  rw [if_pos rfl] at H
  replace H := bE H; obtain ⟨t105, A7, H⟩ := H
  go_wp2_with (first | (go_at_call 138; (with_reducible refine (spec_OpOk.calls _ _ _ _ _ _ A5.out).mono ?_); rintro e wz3 ⟨rfl, hb⟩; replace BKz1 := aB BKz1 hb; replace BKz2 := aB BKz2 hb; replace HB := aS HB hb; clear hb; obtain ⟨hczz18, hczz19, hczz20, hczz21, hczz22, hczz23, hczz24, hczz25, hczz26, hfzz18, hfzz19, hfzz20, hfzz21, hfzz22, hfzz23, hfzz24, hfzz25, hfzz26⟩ := cZ9 BKz2.out; obtain ⟨hczz27, hczz28, hczz29, hczz30, hczz31, hczz32, hczz33, hczz34, hfzz27, hfzz28, hfzz29, hfzz30, hfzz31, hfzz32, hfzz33, hfzz34⟩ := cZ8 BKz1.out; refine Stop.out ?_))
  refine ⟨?_⟩
  by_cases c8 : t105 = true
  case neg =>
    replace c8 := Bool.eq_false_iff.mpr c8
    subst c8
    rw [if_neg nft] at H
    obtain rfl := sI H
    go_wp2_with (first | (go_at_call 43; (with_reducible refine (spec_l1In.calls _ _ _ _ _ A7.out).mono ?_); rintro e w' ⟨rfl, ⟨nd, rfl⟩⟩))
    go_ret
    exact ⟨rE, (hX HB.out)⟩
  subst c8
  rw [if_pos rfl] at H
  go_wp2_with (first | (go_at_call 43; (with_reducible refine (spec_l1In.calls _ _ _ _ _ A7.out).mono ?_); rintro e w' ⟨rfl, ⟨nd, rfl⟩⟩; refine Stop.out ?_))
  refine ⟨?_⟩
  by_cases c9 : a1_5 = (-1)
  · rw [if_pos c9] at H
    obtain ⟨c9b0, c9b1⟩ := eqT c9
    clear c9
    by_cases c10 : a1_6 = (-1)
    · rw [if_pos c10] at H
      obtain ⟨c10b0, c10b1⟩ := eqT c10
      clear c10
      obtain rfl := sI H
      go_wp2
      go_ret
      exact ⟨rE, (hX HB.out)⟩
    rw [if_neg c10] at H
    obtain ⟨c10b0, c10b1⟩ := eqF c10
    replace H := bE H; obtain ⟨t106, A19, H⟩ := H
    obtain rfl := sI H
    go_wp2_with (first | (go_at_call 43; (with_reducible refine (spec_l1In.calls _ _ _ _ _ A19.out).mono ?_); rintro e w' ⟨rfl, ⟨nd, rfl⟩⟩))
    go_ret
    exact ⟨rE, (hX HB.out)⟩
  rw [if_neg c9] at H
  obtain ⟨c9b0, c9b1⟩ := eqF c9
  replace H := bE H; obtain ⟨t107, A28, H⟩ := H
  by_cases c29 : t107 = true
  case neg =>
    replace c29 := Bool.eq_false_iff.mpr c29
    subst c29
    rw [if_neg nft] at H
    obtain rfl := sI H
    go_wp2_with (first | (go_at_call 43; (with_reducible refine (spec_l1In.calls _ _ _ _ _ A28.out).mono ?_); rintro e w' ⟨rfl, ⟨nd, rfl⟩⟩))
    go_ret
    exact ⟨rE, (hX HB.out)⟩
  subst c29
  rw [if_pos rfl] at H
  go_wp2_with (first | (go_at_call 43; (with_reducible refine (spec_l1In.calls _ _ _ _ _ A28.out).mono ?_); rintro e w' ⟨rfl, ⟨nd, rfl⟩⟩; refine Stop.out ?_))
  refine ⟨?_⟩
  by_cases c30 : a1_6 = (-1)
  · rw [if_pos c30] at H
    obtain ⟨c30b0, c30b1⟩ := eqT c30
    clear c30
    obtain rfl := sI H
    go_wp2
    go_ret
    exact ⟨rE, (hX HB.out)⟩
  rw [if_neg c30] at H
  obtain ⟨c30b0, c30b1⟩ := eqF c30
  replace H := bE H; obtain ⟨t108, A39, H⟩ := H
  obtain rfl := sI H
  go_wp2_with (first | (go_at_call 43; (with_reducible refine (spec_l1In.calls _ _ _ _ _ A39.out).mono ?_); rintro e w' ⟨rfl, ⟨nd, rfl⟩⟩))
  go_ret
  exact ⟨rE, (hX HB.out)⟩
def spec_l1Bit.f (a0 : Bool) : Option (Int) := if a0 = true then (some 1) else (some 0)
set_option maxHeartbeats 8000000 in
set_option maxRecDepth 100000 in
theorem spec_l1Bit.calls (a0 : Bool) (r : Int) (w : World) (h : spec_l1Bit.f a0 = some r) :
    Calls Tryz.prog 162 #[.bool a0] w fun e w' => e = .returned (.int .i64 r) ∧ Drawn0 w w' := by
  have H := h
  unfold spec_l1Bit.f at H
  clear h
  go_enter Tryz.func162, Tryz.ntmps162
  by_cases c2 : a0 = true
  · subst c2
    rw [if_pos rfl] at H
    obtain rfl := sI H
    go_wp2
    go_ret
    exact ⟨by first | rfl | (simp; done) | (simp [*]; done), dX⟩
  replace c2 := Bool.eq_false_iff.mpr c2
  subst c2
  rw [if_neg nft] at H
  obtain rfl := sI H
  go_wp2
  go_ret
  exact ⟨by first | rfl | (simp; done) | (simp [*]; done), dX⟩
mutual
def spec_l9Calls.l0 : Nat → Int → Int → List (S140) → List (S162) → List (S97) → Int → List (S73) → List Int → List Int → Int → Option (Bool)
  | 0, _, _, _, _, _, _, _, _, _, _ => none
  | k + 1, x3, x4, x102000, x102001, x102002, x102003, x102004, x102005, x102006, x102007 => if x4 < (x102004.length : Int) then (if 0 ≤ x4 then ((spec_l9Call.f k x102000 x102001 x102002 x102003 x102004 x102005 x102006 x102007 ((rd_T73 x102004 x4).f0) ((rd_T73 x102004 x4).f1.f0) ((rd_T73 x102004 x4).f1.f1) ((rd_T73 x102004 x4).f1.f2) ((rd_T73 x102004 x4).f2) ((rd_T73 x102004 x4).f3) ((rd_T73 x102004 x4).f4) ((rd_T73 x102004 x4).f5.f0) ((rd_T73 x102004 x4).f5.f1)).bind fun t103 => (if t103 = true then ((spec_l1Bit.f (decide (((rd_T73 x102004 x4).f3) ≥ 0))).bind fun t105 => (spec_l9Calls.l0 k (wrap64 (x3 + t105)) (wrap64 (x4 + 1)) x102000 x102001 x102002 x102003 x102004 x102005 x102006 x102007)) else (some false))) else (none)) else (spec_l9Calls.l1 k x3 0 x102000 x102001 x102002 x102003 x102004 x102005 x102006 x102007)
def spec_l9Calls.l1 : Nat → Int → Int → List (S140) → List (S162) → List (S97) → Int → List (S73) → List Int → List Int → Int → Option (Bool)
  | 0, _, _, _, _, _, _, _, _, _, _ => none
  | k + 1, x3, x5, x102000, x102001, x102002, x102003, x102004, x102005, x102006, x102007 => if x5 < (x102005.length : Int) then (if 0 ≤ x5 then ((spec_l1In.f (rd x102005 x5) 0 (wrap64 ((x102004.length : Int) - 1))).bind fun t107 => (if t107 = true then (if 0 ≤ (rd x102005 x5) then (if (rd x102005 x5) < (x102004.length : Int) then (if ((rd_T73 x102004 (rd x102005 x5)).f3) < 0 then (spec_l9Calls.j2 k x3 x5 (rd x102005 x5) true x102000 x102001 x102002 x102003 x102004 x102005 x102006 x102007) else (if x5 > 0 then (if 0 ≤ (wrap64 (x5 - 1)) then (if (wrap64 (x5 - 1)) < (x102005.length : Int) then (if 0 ≤ (rd x102005 (wrap64 (x5 - 1))) then (if (rd x102005 (wrap64 (x5 - 1))) < (x102004.length : Int) then (spec_l9Calls.j2 k x3 x5 (rd x102005 x5) (decide (((rd_T73 x102004 (rd x102005 (wrap64 (x5 - 1)))).f3) > ((rd_T73 x102004 (rd x102005 x5)).f3))) x102000 x102001 x102002 x102003 x102004 x102005 x102006 x102007) else (none)) else (none)) else (none)) else (none)) else (spec_l9Calls.j2 k x3 x5 (rd x102005 x5) false x102000 x102001 x102002 x102003 x102004 x102005 x102006 x102007))) else (none)) else (none)) else (spec_l9Calls.j2 k x3 x5 (rd x102005 x5) true x102000 x102001 x102002 x102003 x102004 x102005 x102006 x102007))) else (none)) else (if (x102004.length : Int) ≤ 40 then (some (x3 == (x102005.length : Int))) else (some false))
def spec_l9Calls.j2 : Nat → Int → Int → Int → Bool → List (S140) → List (S162) → List (S97) → Int → List (S73) → List Int → List Int → Int → Option (Bool)
  | 0, _, _, _, _, _, _, _, _, _, _, _, _ => none
  | k + 1, x3, x5, x6, x84, x102000, x102001, x102002, x102003, x102004, x102005, x102006, x102007 => if x84 = true then (some false) else (spec_l9Calls.l2 k x3 x5 x6 0 x102000 x102001 x102002 x102003 x102004 x102005 x102006 x102007)
def spec_l9Calls.l2 : Nat → Int → Int → Int → Int → List (S140) → List (S162) → List (S97) → Int → List (S73) → List Int → List Int → Int → Option (Bool)
  | 0, _, _, _, _, _, _, _, _, _, _, _, _ => none
  | k + 1, x3, x5, x6, x7, x102000, x102001, x102002, x102003, x102004, x102005, x102006, x102007 => if x7 < x5 then (if 0 ≤ x7 then (if x7 < (x102005.length : Int) then (if (rd x102005 x7) = x6 then (some false) else (spec_l9Calls.l2 k x3 x5 x6 (wrap64 (x7 + 1)) x102000 x102001 x102002 x102003 x102004 x102005 x102006 x102007)) else (none)) else (none)) else (spec_l9Calls.l1 k x3 (wrap64 (x5 + 1)) x102000 x102001 x102002 x102003 x102004 x102005 x102006 x102007)
end
def spec_l9Calls.f (k : Nat) (l0_0 : List (S140)) (l0_1 : List (S162)) (l0_2 : List (S97)) (a0_3 : Int) (l0_4 : List (S73)) (l0_5 : List Int) (l0_6 : List Int) (a0_7 : Int) : Option (Bool) := spec_l9Calls.l0 k 0 0 l0_0 l0_1 l0_2 a0_3 l0_4 l0_5 l0_6 a0_7
def spec_l9Calls.T5 : Bool × List (List Nat × List Nat) := (true, [([], []), ([], []), ([1], [1]), ([], []), ([2, 3], [2, 3]), ([4], [4]), ([0, 5], [0, 5]), ([6], [6])])
def spec_l9Calls.B5 : List Nat := [0, 0, 2, 0, 14, 30, 63, 127]
theorem spec_l9Calls.tab5 : rtab .any (opsOf Tryz.f94 5) = spec_l9Calls.T5 := by kernel_rfl
theorem spec_l9Calls.bits5 : waitsOk spec_l9Calls.T5.2 spec_l9Calls.B5 = true := by kernel_rfl
def spec_l9Calls.T12 : Bool × List (List Nat × List Nat) := (true, [([], []), ([], []), ([1], [1]), ([2], [2]), ([3], [3]), ([0, 4], [0, 4]), ([5], [5]), ([6, 5], [6]), ([7], [7]), ([8, 7], [7, 8]), ([7], [7]), ([9, 10, 7], [7, 9, 10]), ([11, 7], [7, 11]), ([12, 7], [7, 12]), ([13, 7], [7, 13]), ([7, 14], [7, 14]), ([15, 7], [15]), ([16], [16]), ([17, 16], [16, 17]), ([18, 16, 16], [16, 18]), ([19], [19]), ([20, 19], [19, 20]), ([19], [19]), ([22, 19], [19, 22]), ([19], [19]), ([24, 19], [19, 24]), ([23, 25, 19], [19, 23, 25]), ([26, 19], [19, 26]), ([21, 27, 19], [19, 21, 27]), ([28, 19], [19, 28]), ([29, 19], [19, 29]), ([19], [19]), ([31, 19], [19, 31]), ([19], [19]), ([32, 33, 19], [19, 32, 33]), ([34, 19], [19, 34]), ([35, 19], [19, 35]), ([30, 36, 19], [19, 30, 36]), ([19, 37, 16], [16, 19, 37]), ([16, 38], [16, 38])])
def spec_l9Calls.B12 : List Nat := [0, 0, 2, 6, 14, 31, 63, 127, 255, 511, 255, 2047, 4095, 8191, 16383, 32767, 65535, 131071, 262143, 524287, 1048575, 2097151, 1048575, 5242879, 1048575, 17825791, 63963135, 131071999, 268435455, 536870911, 1073741823, 1048575, 2148532223, 1048575, 15033434111, 32213303295, 66573041663, 137438953471, 274877906943, 549755813887]
theorem spec_l9Calls.tab12 : rtab .any (opsOf Tryz.f94 12) = spec_l9Calls.T12 := by kernel_rfl
theorem spec_l9Calls.bits12 : waitsOk spec_l9Calls.T12.2 spec_l9Calls.B12 = true := by kernel_rfl
set_option maxHeartbeats 8000000 in
set_option maxRecDepth 100000 in
theorem spec_l9Calls.calls (k : Nat) (A0_0 : Option Addr) (c0_0 : Nat) (l0_0 : List (S140)) (A0_1 : Option Addr) (c0_1 : Nat) (l0_1 : List (S162)) (A0_2 : Option Addr) (c0_2 : Nat) (l0_2 : List (S97)) (a0_3 : Int) (A0_4 : Option Addr) (c0_4 : Nat) (l0_4 : List (S73)) (A0_5 : Option Addr) (c0_5 : Nat) (l0_5 : List Int) (A0_6 : Option Addr) (c0_6 : Nat) (l0_6 : List Int) (a0_7 : Int) (r : Bool) (w : World) (hr0_0 : Kd.C k140 w A0_0 l0_0.length l0_0) (hc0_0 : l0_0.length ≤ c0_0) (hr0_1 : Kd.C k162 w A0_1 l0_1.length l0_1) (hc0_1 : l0_1.length ≤ c0_1) (hr0_2 : Kd.C k97 w A0_2 l0_2.length l0_2) (hc0_2 : l0_2.length ≤ c0_2) (hr0_4 : Kd.C k73 w A0_4 l0_4.length l0_4) (hc0_4 : l0_4.length ≤ c0_4) (hr0_5 : Kd.C (Kd.int .i64) w A0_5 l0_5.length l0_5) (hc0_5 : l0_5.length ≤ c0_5) (hr0_6 : Kd.C (Kd.int .i64) w A0_6 l0_6.length l0_6) (hc0_6 : l0_6.length ≤ c0_6) (h : spec_l9Calls.f k l0_0 l0_1 l0_2 a0_3 l0_4 l0_5 l0_6 a0_7 = some r) :
    Calls Tryz.prog 94 #[.agg #[.slice A0_0 l0_0.length c0_0, .slice A0_1 l0_1.length c0_1, .slice A0_2 l0_2.length c0_2, .int .i64 a0_3, .slice A0_4 l0_4.length c0_4, .slice A0_5 l0_5.length c0_5, .slice A0_6 l0_6.length c0_6, .int .i64 a0_7]] w fun e w' => e = .returned (.bool r) ∧ Below w.heap.size w w' := by
  have hu43 := Tryz.underlying43
  have hu73 := Tryz.underlying73
  have HR0_0 := aM hr0_0
  have HC0_0 := aM hc0_0
  clear hr0_0 hc0_0
  have HR0_1 := aM hr0_1
  have HC0_1 := aM hc0_1
  clear hr0_1 hc0_1
  have HR0_2 := aM hr0_2
  have HC0_2 := aM hc0_2
  clear hr0_2 hc0_2
  have HR0_4 := aM hr0_4
  have HC0_4 := aM hc0_4
  clear hr0_4 hc0_4
  have HR0_5 := aM hr0_5
  have HC0_5 := aM hc0_5
  clear hr0_5 hc0_5
  have HR0_6 := aM hr0_6
  have HC0_6 := aM hc0_6
  clear hr0_6 hc0_6
  have HB := aM (Below.refl w.heap.size w)
  have H := h
  unfold spec_l9Calls.f at H
  clear h
  have H' := aM H
  clear H
  go_enter Tryz.func94, Tryz.ntmps94
  go_wp2_with (first | ((with_reducible refine gate_dst (N := 1) rfl ?_); (try (refine gate_guard (by rfl) ?_; dsimp only)); refine boxF 1 #[.slice A0_0 l0_0.length c0_0, .slice A0_1 l0_1.length c0_1, .slice A0_2 l0_2.length c0_2, .int .i64 a0_3, .slice A0_4 l0_4.length c0_4, .slice A0_5 l0_5.length c0_5, .slice A0_6 l0_6.length c0_6, .int .i64 a0_7] 43 ?_; intro gbz1 hg wz1 hbox hb; have BKz1 := aM (hbox); have GWz1 := aG hg HB; have GEz1 := aG hg HB; replace HB := aS HB hb; clear hb hbox hg))
  go_loopg [3, 4] k (fun kq v3 v4 w' => ∃ (x3_1 : Int) (x4_1 : Int), v3 = .int .i64 x3_1 ∧ v4 = .int .i64 x4_1 ∧ Aside0 (spec_l9Calls.l0 kq x3_1 x4_1 l0_0 l0_1 l0_2 a0_3 l0_4 l0_5 l0_6 a0_7 = some r) ∧ Aside0 (kq ≤ k) ∧ Aside0 (w'.heap[gbz1]? = some (.cells #[(.slice A0_0 l0_0.length c0_0), (.slice A0_1 l0_1.length c0_1), (.slice A0_2 l0_2.length c0_2), .int .i64 a0_3, (.slice A0_4 l0_4.length c0_4), (.slice A0_5 l0_5.length c0_5), (.slice A0_6 l0_6.length c0_6), .int .i64 a0_7] 43 (0, 0))) ∧ Aside0 (Below w.heap.size w w'))
  case atStart => exact ⟨(0), (0), rS, rS, H', ⟨Nat.le_refl _⟩, ⟨(bX BKz1.out)⟩, ⟨(hX HB.out)⟩⟩
  case round =>
    clear H'
    try clear p2
    obtain ⟨x3_1, x4_1, rfl, rfl, HA, HKy1, BKz1, HB⟩ := hrel
    cases gk with
    | zero => exact absurd HA.out (by simp [spec_l9Calls.l0])
    | succ k1 =>
      have H := HA.out
      clear HA
      simp only [spec_l9Calls.l0] at H
      by_cases c3 : x4_1 < (l0_4.length : Int)
      · rw [if_pos c3] at H
        have c3b0 := decide_eq_true c3
        clear c3
        replace H := ifP H; obtain ⟨c4, H⟩ := H
        have c4b0 := decide_eq_true c4
        clear c4
        replace H := bE H; obtain ⟨t103, A5, H⟩ := H
        obtain ⟨hczx1, hczx2, hczx3, hczx4, hczx5, hczx6, hczx7, hczx8, hfzx1, hfzx2, hfzx3, hfzx4, hfzx5, hfzx6, hfzx7, hfzx8⟩ := cZ8 BKz1.out
        try go_wp2
        replace BKz1 := aM (blk_drew BKz1.out)
        replace HB := aM (below_drew1 HB.out)
        have px1 : 0 ≤ (x4_1 : Int) := odA
        have qx1 : x4_1 < (l0_4.length : Int) := odA
        obtain ⟨adx1, Ax1, cx1, ex1, hxx1, hxx2, hxx3, hxx4, hxx5, hxx6, hxx7, hxx8, hxx9, hlx1, hix1⟩ := at_T73 HR0_4.out x4_1 px1 qx1
        have hwx1 := hxx9
        have hwx2 := hxx8
        have hwx3 := hxx7
        have hwx4 := hxx6
        have hwx5 := hxx5
        have hwx6 := hxx4
        have hwx7 := hxx3
        have hwx8 := hxx2
        have hwx9 := hxx1
        cases ex1
        replace hxx1 := bc HB.out hxx1
        replace hxx2 := bc HB.out hxx2
        replace hxx3 := bc HB.out hxx3
        replace hxx4 := bc HB.out hxx4
        replace hxx5 := bc HB.out hxx5
        replace hxx6 := bc HB.out hxx6
        replace hxx7 := bc HB.out hxx7
        replace hxx8 := bc HB.out hxx8
        replace hxx9 := bc HB.out hxx9
        have HRx1 := aM hix1
        have HCx1 := aM hlx1
        clear hix1 hlx1
        replace px1 := eq_true px1
        replace qx1 := eq_true qx1
        refine start_ (n := 8) (S := fun w' => w'.cell? ⟨gbz1, 0, none⟩ = some (.slice A0_0 l0_0.length c0_0) ∧ w'.cell? ⟨gbz1, 1, none⟩ = some (.slice A0_1 l0_1.length c0_1) ∧ w'.cell? ⟨gbz1, 2, none⟩ = some (.slice A0_2 l0_2.length c0_2) ∧ w'.cell? ⟨gbz1, 3, none⟩ = some (.int .i64 a0_3) ∧ w'.cell? ⟨gbz1, 4, none⟩ = some (.slice (some adx1) l0_4.length c0_4) ∧ w'.cell? ⟨gbz1, 5, none⟩ = some (.slice A0_5 l0_5.length c0_5) ∧ w'.cell? ⟨gbz1, 6, none⟩ = some (.slice A0_6 l0_6.length c0_6) ∧ w'.cell? ⟨gbz1, 7, none⟩ = some (.int .i64 a0_7) ∧ w'.cell? (adx1.add ((x4_1).toNat * 9)) = some (.int .i64 ((rd_T73 l0_4 x4_1).f0)) ∧ w'.cell? ⟨(adx1.add ((x4_1).toNat * 9)).block, (adx1.add ((x4_1).toNat * 9)).off + 1, none⟩ = some (.int .i64 ((rd_T73 l0_4 x4_1).f1.f0)) ∧ w'.cell? ⟨(adx1.add ((x4_1).toNat * 9)).block, (adx1.add ((x4_1).toNat * 9)).off + 2, none⟩ = some (.int .i64 ((rd_T73 l0_4 x4_1).f1.f1)) ∧ w'.cell? ⟨(adx1.add ((x4_1).toNat * 9)).block, (adx1.add ((x4_1).toNat * 9)).off + 3, none⟩ = some (.int .i64 ((rd_T73 l0_4 x4_1).f1.f2)) ∧ w'.cell? ⟨(adx1.add ((x4_1).toNat * 9)).block, (adx1.add ((x4_1).toNat * 9)).off + 4, none⟩ = some (.int .i64 ((rd_T73 l0_4 x4_1).f2)) ∧ w'.cell? ⟨(adx1.add ((x4_1).toNat * 9)).block, (adx1.add ((x4_1).toNat * 9)).off + 5, none⟩ = some (.int .i64 ((rd_T73 l0_4 x4_1).f3)) ∧ w'.cell? ⟨(adx1.add ((x4_1).toNat * 9)).block, (adx1.add ((x4_1).toNat * 9)).off + 6, none⟩ = some (.int .i64 ((rd_T73 l0_4 x4_1).f4)) ∧ w'.cell? ⟨(adx1.add ((x4_1).toNat * 9)).block, (adx1.add ((x4_1).toNat * 9)).off + 7, none⟩ = some (.int .i64 ((rd_T73 l0_4 x4_1).f5.f0)) ∧ w'.cell? ⟨(adx1.add ((x4_1).toNat * 9)).block, (adx1.add ((x4_1).toNat * 9)).off + 8, none⟩ = some (.slice Ax1 ((rd_T73 l0_4 x4_1).f5.f1).length cx1)) (ds := []) (bm 8 0) (by kernel_rfl) rfl (by kernel_rfl) ⟨cK BKz1.out 0, cK BKz1.out 1, cK BKz1.out 2, cK BKz1.out 3, cK BKz1.out 4, cK BKz1.out 5, cK BKz1.out 6, cK BKz1.out 7, (bc HB.out hwx9 :), (bc HB.out hwx8 :), (bc HB.out hwx7 :), (bc HB.out hwx6 :), (bc HB.out hwx5 :), (bc HB.out hwx4 :), (bc HB.out hwx3 :), (bc HB.out hwx2 :), (bc HB.out hwx1 :)⟩ (fun hHeld => ?_); refine with_tabW spec_l9Calls.tab5 spec_l9Calls.bits5 (fun HT_ HW_ => ?_)
        generalize wr.drew = wx1 at BKz1 HB HRx1 hxx1 hxx2 hxx3 hxx4 hxx5 hxx6 hxx7 hxx8 hxx9 hHeld ⊢
        refine pZ 1 16 (bm 8 2) HT_.out ?_
        refine pZ 3 18 (bm 8 10) HT_.out ?_
        refine tZ 0 15 (bm 8 11) HT_.out HW_.out hHeld ?_
        refine tZ 2 17 (bm 8 15) HT_.out HW_.out hHeld ?_
        refine pZ 4 19 (bm 8 31) HT_.out ?_
        refine tZ 5 20 (bm 8 63) HT_.out HW_.out hHeld ?_
        by_cases c6 : t103 = true
        case neg =>
          replace c6 := Bool.eq_false_iff.mpr c6
          subst c6
          rw [if_neg nft] at H
          obtain rfl := sI H
          refine oZ 6 (some 21) (bm 8 127) HT_.out (fun K hK => ?_)
          refine goesN Tryz.func161 #[.agg #[.slice A0_0 l0_0.length c0_0, .slice A0_1 l0_1.length c0_1, .slice A0_2 l0_2.length c0_2, .int .i64 a0_3, .slice (some adx1) l0_4.length c0_4, .slice A0_5 l0_5.length c0_5, .slice A0_6 l0_6.length c0_6, .int .i64 a0_7], .agg #[.int .i64 ((rd_T73 l0_4 x4_1).f0), .int .i64 ((rd_T73 l0_4 x4_1).f1.f0), .int .i64 ((rd_T73 l0_4 x4_1).f1.f1), .int .i64 ((rd_T73 l0_4 x4_1).f1.f2), .int .i64 ((rd_T73 l0_4 x4_1).f2), .int .i64 ((rd_T73 l0_4 x4_1).f3), .int .i64 ((rd_T73 l0_4 x4_1).f4), .int .i64 ((rd_T73 l0_4 x4_1).f5.f0), .slice Ax1 ((rd_T73 l0_4 x4_1).f5.f1).length cx1]] ?_
          with_reducible refine (spec_l9Call.calls _ _ _ _ _ _ _ _ _ _ _ _ _ _ _ _ _ _ _ _ _ _ _ _ _ _ _ _ _ _ _ _ _ _ ?side1 ?side2 ?side3 ?side4 ?side5 ?side6 ?side7 ?side8 ?side9 ?side10 ?side11 ?side12 ?side13 ?side14 A5.out).mono ?_
          (case side1 => repeat (first | exact (Kd.C_below HR0_0.out HB.out) | (with_reducible refine Kd.C_alloc ?_ _) | (with_reducible refine Kd.C_drewN ?_ _) | (with_reducible refine Kd.C_drew ?_)))
          (case side2 => exact HC0_0.out)
          (case side3 => repeat (first | exact (Kd.C_below HR0_1.out HB.out) | (with_reducible refine Kd.C_alloc ?_ _) | (with_reducible refine Kd.C_drewN ?_ _) | (with_reducible refine Kd.C_drew ?_)))
          (case side4 => exact HC0_1.out)
          (case side5 => repeat (first | exact (Kd.C_below HR0_2.out HB.out) | (with_reducible refine Kd.C_alloc ?_ _) | (with_reducible refine Kd.C_drewN ?_ _) | (with_reducible refine Kd.C_drew ?_)))
          (case side6 => exact HC0_2.out)
          (case side7 => repeat (first | exact (Kd.C_below HR0_4.out HB.out) | (with_reducible refine Kd.C_alloc ?_ _) | (with_reducible refine Kd.C_drewN ?_ _) | (with_reducible refine Kd.C_drew ?_)))
          (case side8 => exact HC0_4.out)
          (case side9 => repeat (first | exact (Kd.C_below HR0_5.out HB.out) | (with_reducible refine Kd.C_alloc ?_ _) | (with_reducible refine Kd.C_drewN ?_ _) | (with_reducible refine Kd.C_drew ?_)))
          (case side10 => exact HC0_5.out)
          (case side11 => repeat (first | exact (Kd.C_below HR0_6.out HB.out) | (with_reducible refine Kd.C_alloc ?_ _) | (with_reducible refine Kd.C_drewN ?_ _) | (with_reducible refine Kd.C_drew ?_)))
          (case side12 => exact HC0_6.out)
          (case side13 => repeat (first | exact (Kd.C_below HRx1.out HB.out) | (with_reducible refine Kd.C_alloc ?_ _) | (with_reducible refine Kd.C_drewN ?_ _) | (with_reducible refine Kd.C_drew ?_)))
          (case side14 => exact HCx1.out)
          rintro e wx2 ⟨rfl, hb⟩
          refine ⟨_, rfl, ?_⟩
          replace BKz1 := aB BKz1 hb
          replace HB := aS HB hb
          (try clear hb)
          (try clear hb2)
          (try clear hk)
          (try clear hi)
          refine hK.out _ _ ⟨cK BKz1.out 0, cK BKz1.out 1, cK BKz1.out 2, cK BKz1.out 3, cK BKz1.out 4, cK BKz1.out 5, cK BKz1.out 6, cK BKz1.out 7, (bc HB.out hwx9 :), (bc HB.out hwx8 :), (bc HB.out hwx7 :), (bc HB.out hwx6 :), (bc HB.out hwx5 :), (bc HB.out hwx4 :), (bc HB.out hwx3 :), (bc HB.out hwx2 :), (bc HB.out hwx1 :)⟩ (fun hHeld => ?_)
          clear hK K
          refine nZ 21 ?_
          refine pZ 7 22 (bm 8 255) HT_.out ?_
          refine done_ (done_of HT_.out (by kernel_rfl)) ?_
          try go_wp2
          go_ret
          exact ⟨rE, (hX HB.out)⟩
        subst c6
        rw [if_pos rfl] at H
        replace H := bE H; obtain ⟨t105, A7, H⟩ := H
        have H' := aM H
        clear H
        refine oZ 6 (some 21) (bm 8 127) HT_.out (fun K hK => ?_)
        refine goesN Tryz.func161 #[.agg #[.slice A0_0 l0_0.length c0_0, .slice A0_1 l0_1.length c0_1, .slice A0_2 l0_2.length c0_2, .int .i64 a0_3, .slice (some adx1) l0_4.length c0_4, .slice A0_5 l0_5.length c0_5, .slice A0_6 l0_6.length c0_6, .int .i64 a0_7], .agg #[.int .i64 ((rd_T73 l0_4 x4_1).f0), .int .i64 ((rd_T73 l0_4 x4_1).f1.f0), .int .i64 ((rd_T73 l0_4 x4_1).f1.f1), .int .i64 ((rd_T73 l0_4 x4_1).f1.f2), .int .i64 ((rd_T73 l0_4 x4_1).f2), .int .i64 ((rd_T73 l0_4 x4_1).f3), .int .i64 ((rd_T73 l0_4 x4_1).f4), .int .i64 ((rd_T73 l0_4 x4_1).f5.f0), .slice Ax1 ((rd_T73 l0_4 x4_1).f5.f1).length cx1]] ?_
        with_reducible refine (spec_l9Call.calls _ _ _ _ _ _ _ _ _ _ _ _ _ _ _ _ _ _ _ _ _ _ _ _ _ _ _ _ _ _ _ _ _ _ ?side1 ?side2 ?side3 ?side4 ?side5 ?side6 ?side7 ?side8 ?side9 ?side10 ?side11 ?side12 ?side13 ?side14 A5.out).mono ?_
        (case side1 => repeat (first | exact (Kd.C_below HR0_0.out HB.out) | (with_reducible refine Kd.C_alloc ?_ _) | (with_reducible refine Kd.C_drewN ?_ _) | (with_reducible refine Kd.C_drew ?_)))
        (case side2 => exact HC0_0.out)
        (case side3 => repeat (first | exact (Kd.C_below HR0_1.out HB.out) | (with_reducible refine Kd.C_alloc ?_ _) | (with_reducible refine Kd.C_drewN ?_ _) | (with_reducible refine Kd.C_drew ?_)))
        (case side4 => exact HC0_1.out)
        (case side5 => repeat (first | exact (Kd.C_below HR0_2.out HB.out) | (with_reducible refine Kd.C_alloc ?_ _) | (with_reducible refine Kd.C_drewN ?_ _) | (with_reducible refine Kd.C_drew ?_)))
        (case side6 => exact HC0_2.out)
        (case side7 => repeat (first | exact (Kd.C_below HR0_4.out HB.out) | (with_reducible refine Kd.C_alloc ?_ _) | (with_reducible refine Kd.C_drewN ?_ _) | (with_reducible refine Kd.C_drew ?_)))
        (case side8 => exact HC0_4.out)
        (case side9 => repeat (first | exact (Kd.C_below HR0_5.out HB.out) | (with_reducible refine Kd.C_alloc ?_ _) | (with_reducible refine Kd.C_drewN ?_ _) | (with_reducible refine Kd.C_drew ?_)))
        (case side10 => exact HC0_5.out)
        (case side11 => repeat (first | exact (Kd.C_below HR0_6.out HB.out) | (with_reducible refine Kd.C_alloc ?_ _) | (with_reducible refine Kd.C_drewN ?_ _) | (with_reducible refine Kd.C_drew ?_)))
        (case side12 => exact HC0_6.out)
        (case side13 => repeat (first | exact (Kd.C_below HRx1.out HB.out) | (with_reducible refine Kd.C_alloc ?_ _) | (with_reducible refine Kd.C_drewN ?_ _) | (with_reducible refine Kd.C_drew ?_)))
        (case side14 => exact HCx1.out)
        rintro e wx2 ⟨rfl, hb⟩
        refine ⟨_, rfl, ?_⟩
        replace BKz1 := aB BKz1 hb
        replace HB := aS HB hb
        (try clear hb)
        (try clear hb2)
        (try clear hk)
        (try clear hi)
        refine hK.out _ _ ⟨cK BKz1.out 0, cK BKz1.out 1, cK BKz1.out 2, cK BKz1.out 3, cK BKz1.out 4, cK BKz1.out 5, cK BKz1.out 6, cK BKz1.out 7, (bc HB.out hwx9 :), (bc HB.out hwx8 :), (bc HB.out hwx7 :), (bc HB.out hwx6 :), (bc HB.out hwx5 :), (bc HB.out hwx4 :), (bc HB.out hwx3 :), (bc HB.out hwx2 :), (bc HB.out hwx1 :)⟩ (fun hHeld => ?_)
        clear hK K
        refine nZ 21 ?_
        refine pZ 7 22 (bm 8 255) HT_.out ?_
        refine done_ (done_of HT_.out (by kernel_rfl)) ?_
        obtain ⟨hczx9, hczx10, hczx11, hczx12, hczx13, hczx14, hczx15, hczx16, hfzx9, hfzx10, hfzx11, hfzx12, hfzx13, hfzx14, hfzx15, hfzx16⟩ := cZ8 BKz1.out
        have px2 : 0 ≤ (x4_1 : Int) := odA
        have qx2 : x4_1 < (l0_4.length : Int) := odA
        obtain ⟨adx2, Ax2, cx2, ex2, hxx10, hxx11, hxx12, hxx13, hxx14, hxx15, hxx16, hxx17, hxx18, hlx2, hix2⟩ := at_T73b HR0_4.out HB.out x4_1 px2 qx2
        obtain rfl : adx1 = adx2 := (by injection ex2)
        have HRx2 := aM hix2
        have HCx2 := aM hlx2
        clear hix2 hlx2
        replace px2 := eq_true px2
        replace qx2 := eq_true qx2
        try go_wp2_with (first | (refine goesM 162 31 Tryz.func162 #[.bool (decide (((rd_T73 l0_4 x4_1).f3) ≥ 0))] ?_; refine (spec_l1Bit.calls _ _ _ A7.out).mono ?_; rintro e w' ⟨rfl, ⟨nd, rfl⟩⟩; refine ⟨_, rfl, ?_⟩))
        go_roundg k1
        case measure => have := HKy1.out; omega
        case rel => exact ⟨(wrap64 (x3_1 + t105)), (wrap64 (x4_1 + 1)), rS, rS, H', ⟨by have := HKy1.out; omega⟩, ⟨(bX BKz1.out)⟩, ⟨(hX HB.out)⟩⟩
      rw [if_neg c3] at H
      have c3b0 := decide_eq_false c3
      clear c3
      have H' := aM H
      clear H
      obtain ⟨hczx1, hczx2, hczx3, hczx4, hczx5, hczx6, hczx7, hczx8, hfzx1, hfzx2, hfzx3, hfzx4, hfzx5, hfzx6, hfzx7, hfzx8⟩ := cZ8 BKz1.out
      go_wp2
      go_loopg [5] k1 (fun kq v5 w' => ∃ (x5_2 : Int), v5 = .int .i64 x5_2 ∧ Aside0 (spec_l9Calls.l1 kq x3_1 x5_2 l0_0 l0_1 l0_2 a0_3 l0_4 l0_5 l0_6 a0_7 = some r) ∧ Aside0 (kq ≤ k1) ∧ Aside0 (w'.heap[gbz1]? = some (.cells #[(.slice A0_0 l0_0.length c0_0), (.slice A0_1 l0_1.length c0_1), (.slice A0_2 l0_2.length c0_2), .int .i64 a0_3, (.slice A0_4 l0_4.length c0_4), (.slice A0_5 l0_5.length c0_5), (.slice A0_6 l0_6.length c0_6), .int .i64 a0_7] 43 (0, 0))) ∧ Aside0 (Below w.heap.size w w'))
      case atStart => exact ⟨(0), rS, H', ⟨Nat.le_refl _⟩, ⟨(bX BKz1.out)⟩, ⟨(hX HB.out)⟩⟩
      case round =>
        clear H'
        try clear p1
        try clear q1
        try clear hx1
        try clear p2
        try clear c3
        try clear c3b0
        try clear p6
        try clear p10
        try clear q10
        try clear hx10
        try clear hczx1 hczx2 hczx3 hczx4 hczx5 hczx6 hczx7 hczx8 hfzx1 hfzx2 hfzx3 hfzx4 hfzx5 hfzx6 hfzx7 hfzx8
        try clear hx102_0
        try clear hx102_1
        try clear hx102_2
        try clear hx102_3
        try clear hx102_4
        try clear hx102_5
        try clear hx102_6
        try clear hx102_7
        try clear hx102_8
        try clear hx104_0
        try clear hx104_1
        try clear hx104_2
        try clear hx104_3
        try clear hx104_4
        try clear hx104_5
        try clear hx104_6
        try clear hx104_7
        try clear hx104_8
        try clear p102
        try clear p104
        try clear q102
        try clear q104
        obtain ⟨x5_2, rfl, HA, HKw1, BKz1, HB⟩ := hrel
        cases gk with
        | zero => exact absurd HA.out (by simp [spec_l9Calls.l1])
        | succ k2 =>
          have H := HA.out
          clear HA
          simp only [spec_l9Calls.l1] at H
          by_cases c16 : x5_2 < (l0_5.length : Int)
          case neg =>
            rw [if_neg c16] at H
            have c16b0 := decide_eq_false c16
            clear c16
            by_cases c42 : (l0_4.length : Int) ≤ 40
            · rw [if_pos c42] at H
              have c42b0 := decide_eq_true c42
              have c42b1 : decide (l0_4.length ≤ 40) = true := decide_eq_true (by omega)
              clear c42
              obtain rfl := sI H
              obtain ⟨hczv1, hczv2, hczv3, hczv4, hczv5, hczv6, hczv7, hczv8, hfzv1, hfzv2, hfzv3, hfzv4, hfzv5, hfzv6, hfzv7, hfzv8⟩ := cZ8 BKz1.out
              go_wp2
              go_ret
              exact ⟨rE, (hX HB.out)⟩
            rw [if_neg c42] at H
            have c42b0 := decide_eq_false c42
            have c42b1 : decide (l0_4.length ≤ 40) = false := decide_eq_false (by omega)
            clear c42
            obtain rfl := sI H
            obtain ⟨hczv1, hczv2, hczv3, hczv4, hczv5, hczv6, hczv7, hczv8, hfzv1, hfzv2, hfzv3, hfzv4, hfzv5, hfzv6, hfzv7, hfzv8⟩ := cZ8 BKz1.out
            go_wp2
            go_ret
            exact ⟨rE, (hX HB.out)⟩
          rw [if_pos c16] at H
          have c16b0 := decide_eq_true c16
          clear c16
          replace H := ifP H; obtain ⟨c17, H⟩ := H
          have c17b0 := decide_eq_true c17
          clear c17
          have HC18 := aM H
          clear H
          obtain ⟨hczv1, hczv2, hczv3, hczv4, hczv5, hczv6, hczv7, hczv8, hfzv1, hfzv2, hfzv3, hfzv4, hfzv5, hfzv6, hfzv7, hfzv8⟩ := cZ8 BKz1.out
          have pv1 : 0 ≤ (x5_2 : Int) := odA
          have qv1 : x5_2 < (l0_5.length : Int) := odA
          obtain ⟨adv1, ev1, hxv1⟩ := at_ib HR0_5.out HB.out x5_2 pv1 qv1
          cases ev1
          replace pv1 := eq_true pv1
          replace qv1 := eq_true qv1
          go_upto_region 12 with (fail)
          go_cut [84] (fun vv1 wc => ∃ (kq : Nat) (x84_17 : Bool), vv1 = .bool x84_17 ∧ Aside0 (spec_l9Calls.j2 kq x3_1 x5_2 (rd l0_5 x5_2) x84_17 l0_0 l0_1 l0_2 a0_3 l0_4 l0_5 l0_6 a0_7 = some r) ∧ Aside0 (kq ≤ k2) ∧ Aside0 (wc.heap[gbz1]? = some (.cells #[(.slice A0_0 l0_0.length c0_0), (.slice A0_1 l0_1.length c0_1), (.slice A0_2 l0_2.length c0_2), .int .i64 a0_3, (.slice A0_4 l0_4.length c0_4), (.slice (some adv1) l0_5.length c0_5), (.slice A0_6 l0_6.length c0_6), .int .i64 a0_7] 43 (0, 0))) ∧ Aside0 (Below w.heap.size w wc))
          case first =>
            have H := HC18.out
            clear HC18
            replace H := bE H; obtain ⟨t107, A20, H⟩ := H
            by_cases c21 : t107 = true
            case neg =>
              replace c21 := Bool.eq_false_iff.mpr c21
              subst c21
              rw [if_neg nft] at H
              have H' := aM H
              clear H
              try go_wp2
              replace BKz1 := aM (blk_drew BKz1.out)
              replace HB := aM (below_drew1 HB.out)
              refine start_ (n := 40) (S := fun w' => w'.cell? ⟨gbz1, 0, none⟩ = some (.slice A0_0 l0_0.length c0_0) ∧ w'.cell? ⟨gbz1, 1, none⟩ = some (.slice A0_1 l0_1.length c0_1) ∧ w'.cell? ⟨gbz1, 2, none⟩ = some (.slice A0_2 l0_2.length c0_2) ∧ w'.cell? ⟨gbz1, 3, none⟩ = some (.int .i64 a0_3) ∧ w'.cell? ⟨gbz1, 4, none⟩ = some (.slice A0_4 l0_4.length c0_4) ∧ w'.cell? ⟨gbz1, 5, none⟩ = some (.slice (some adv1) l0_5.length c0_5) ∧ w'.cell? ⟨gbz1, 6, none⟩ = some (.slice A0_6 l0_6.length c0_6) ∧ w'.cell? ⟨gbz1, 7, none⟩ = some (.int .i64 a0_7)) (ds := []) (bm 40 0) (by kernel_rfl) rfl (by kernel_rfl) ⟨cK BKz1.out 0, cK BKz1.out 1, cK BKz1.out 2, cK BKz1.out 3, cK BKz1.out 4, cK BKz1.out 5, cK BKz1.out 6, cK BKz1.out 7⟩ (fun hHeld => ?_); refine with_tabW spec_l9Calls.tab12 spec_l9Calls.bits12 (fun HT_ HW_ => ?_)
              generalize wr.drew = wu1 at BKz1 HB hHeld ⊢
              refine pZ 0 45 (bm 40 1) HT_.out ?_
              refine pZ 1 46 (bm 40 3) HT_.out ?_
              refine tZ 2 47 (bm 40 7) HT_.out HW_.out hHeld ?_
              refine pZ 3 48 (bm 40 15) HT_.out ?_
              refine pZ 4 49 (bm 40 31) HT_.out ?_
              refine oZ 5 (some 50) (bm 40 63) HT_.out (fun K hK => ?_)
              refine goesN Tryz.func43 #[.int .i64 (rd l0_5 x5_2), .int .i64 0, .int .i64 (wrap64 ((l0_4.length : Int) - 1))] ?_
              with_reducible refine (spec_l1In.calls _ _ _ _ _ A20.out).mono ?_
              rintro e w' ⟨rfl, ⟨nd, rfl⟩⟩
              refine ⟨_, rfl, ?_⟩
              refine hK.out _ _ ⟨cK BKz1.out 0, cK BKz1.out 1, cK BKz1.out 2, cK BKz1.out 3, cK BKz1.out 4, cK BKz1.out 5, cK BKz1.out 6, cK BKz1.out 7⟩ (fun hHeld => ?_)
              clear hK K
              refine nZ 50 ?_
              refine pZ 6 51 (bm 40 127) HT_.out ?_
              refine pZ 7 52 (bm 40 255) HT_.out ?_
              refine pU 8 53 (bm 40 511) HT_.out ?_
              refine pU 9 54 (bm 40 1023) HT_.out ?_
              refine pU 10 55 (bm 40 2047) HT_.out ?_
              refine pU 11 56 (bm 40 4095) HT_.out ?_
              refine pU 12 57 (bm 40 8191) HT_.out ?_
              refine pU 13 58 (bm 40 16383) HT_.out ?_
              refine pU 14 59 (bm 40 32767) HT_.out ?_
              refine pZ 15 60 (bm 40 65535) HT_.out ?_
              refine pZ 16 61 (bm 40 131071) HT_.out ?_
              refine pU 17 62 (bm 40 262143) HT_.out ?_
              refine pU 18 63 (bm 40 524287) HT_.out ?_
              refine pU 19 64 (bm 40 1048575) HT_.out ?_
              refine pU 20 65 (bm 40 2097151) HT_.out ?_
              refine pU 21 66 (bm 40 4194303) HT_.out ?_
              refine pU 22 67 (bm 40 8388607) HT_.out ?_
              refine pU 23 68 (bm 40 16777215) HT_.out ?_
              refine pU 24 69 (bm 40 33554431) HT_.out ?_
              refine pU 25 70 (bm 40 67108863) HT_.out ?_
              refine pU 26 71 (bm 40 134217727) HT_.out ?_
              refine pU 27 72 (bm 40 268435455) HT_.out ?_
              refine pU 28 73 (bm 40 536870911) HT_.out ?_
              refine pU 29 74 (bm 40 1073741823) HT_.out ?_
              refine pU 30 75 (bm 40 2147483647) HT_.out ?_
              refine pU 31 76 (bm 40 4294967295) HT_.out ?_
              refine pU 32 77 (bm 40 8589934591) HT_.out ?_
              refine pU 33 78 (bm 40 17179869183) HT_.out ?_
              refine pU 34 79 (bm 40 34359738367) HT_.out ?_
              refine pU 35 80 (bm 40 68719476735) HT_.out ?_
              refine pU 36 81 (bm 40 137438953471) HT_.out ?_
              refine pU 37 82 (bm 40 274877906943) HT_.out ?_
              refine pU 38 83 (bm 40 549755813887) HT_.out ?_
              refine pZ 39 84 (bm 40 1099511627775) HT_.out ?_
              refine done_ (done_of HT_.out (by kernel_rfl)) ?_
              try go_wp2
              go_meet
              case rel => exact ⟨_, (true), rS, H', ⟨by have := HKy1.out; have := HKw1.out; first | omega | exact Nat.le_refl _⟩, ⟨(bX BKz1.out)⟩, ⟨(hX HB.out)⟩⟩
            subst c21
            rw [if_pos rfl] at H
            replace H := ifP H; obtain ⟨c22, H⟩ := H
            have c22b0 := decide_eq_true c22
            clear c22
            (first | rw [c22b0] | (simp only [i64_w, i32_w]; rw [c22b0]) | skip)
            replace H := ifP H; obtain ⟨c23, H⟩ := H
            have c23b0 := decide_eq_true c23
            clear c23
            by_cases c24 : ((rd_T73 l0_4 (rd l0_5 x5_2)).f3) < 0
            · rw [if_pos c24] at H
              have c24b0 := decide_eq_true c24
              clear c24
              have H' := aM H
              clear H
              try go_wp2
              replace BKz1 := aM (blk_drew BKz1.out)
              replace HB := aM (below_drew1 HB.out)
              have pu1 : 0 ≤ ((rd l0_5 x5_2) : Int) := odA
              have qu1 : (rd l0_5 x5_2) < (l0_4.length : Int) := odA
              obtain ⟨adu1, Au1, cu1, eu1, hxu1, hxu2, hxu3, hxu4, hxu5, hxu6, hxu7, hxu8, hxu9, hlu1, hiu1⟩ := at_T73 HR0_4.out (rd l0_5 x5_2) pu1 qu1
              have hwu1 := hxu9
              have hwu2 := hxu8
              have hwu3 := hxu7
              have hwu4 := hxu6
              have hwu5 := hxu5
              have hwu6 := hxu4
              have hwu7 := hxu3
              have hwu8 := hxu2
              have hwu9 := hxu1
              cases eu1
              replace hxu1 := bc HB.out hxu1
              replace hxu2 := bc HB.out hxu2
              replace hxu3 := bc HB.out hxu3
              replace hxu4 := bc HB.out hxu4
              replace hxu5 := bc HB.out hxu5
              replace hxu6 := bc HB.out hxu6
              replace hxu7 := bc HB.out hxu7
              replace hxu8 := bc HB.out hxu8
              replace hxu9 := bc HB.out hxu9
              have HRu1 := aM hiu1
              have HCu1 := aM hlu1
              clear hiu1 hlu1
              replace pu1 := eq_true pu1
              replace qu1 := eq_true qu1
              refine start_ (n := 40) (S := fun w' => w'.cell? ⟨gbz1, 0, none⟩ = some (.slice A0_0 l0_0.length c0_0) ∧ w'.cell? ⟨gbz1, 1, none⟩ = some (.slice A0_1 l0_1.length c0_1) ∧ w'.cell? ⟨gbz1, 2, none⟩ = some (.slice A0_2 l0_2.length c0_2) ∧ w'.cell? ⟨gbz1, 3, none⟩ = some (.int .i64 a0_3) ∧ w'.cell? ⟨gbz1, 4, none⟩ = some (.slice (some adu1) l0_4.length c0_4) ∧ w'.cell? ⟨gbz1, 5, none⟩ = some (.slice (some adv1) l0_5.length c0_5) ∧ w'.cell? ⟨gbz1, 6, none⟩ = some (.slice A0_6 l0_6.length c0_6) ∧ w'.cell? ⟨gbz1, 7, none⟩ = some (.int .i64 a0_7) ∧ w'.cell? (adu1.add (((rd l0_5 x5_2)).toNat * 9)) = some (.int .i64 ((rd_T73 l0_4 (rd l0_5 x5_2)).f0)) ∧ w'.cell? ⟨(adu1.add (((rd l0_5 x5_2)).toNat * 9)).block, (adu1.add (((rd l0_5 x5_2)).toNat * 9)).off + 1, none⟩ = some (.int .i64 ((rd_T73 l0_4 (rd l0_5 x5_2)).f1.f0)) ∧ w'.cell? ⟨(adu1.add (((rd l0_5 x5_2)).toNat * 9)).block, (adu1.add (((rd l0_5 x5_2)).toNat * 9)).off + 2, none⟩ = some (.int .i64 ((rd_T73 l0_4 (rd l0_5 x5_2)).f1.f1)) ∧ w'.cell? ⟨(adu1.add (((rd l0_5 x5_2)).toNat * 9)).block, (adu1.add (((rd l0_5 x5_2)).toNat * 9)).off + 3, none⟩ = some (.int .i64 ((rd_T73 l0_4 (rd l0_5 x5_2)).f1.f2)) ∧ w'.cell? ⟨(adu1.add (((rd l0_5 x5_2)).toNat * 9)).block, (adu1.add (((rd l0_5 x5_2)).toNat * 9)).off + 4, none⟩ = some (.int .i64 ((rd_T73 l0_4 (rd l0_5 x5_2)).f2)) ∧ w'.cell? ⟨(adu1.add (((rd l0_5 x5_2)).toNat * 9)).block, (adu1.add (((rd l0_5 x5_2)).toNat * 9)).off + 5, none⟩ = some (.int .i64 ((rd_T73 l0_4 (rd l0_5 x5_2)).f3)) ∧ w'.cell? ⟨(adu1.add (((rd l0_5 x5_2)).toNat * 9)).block, (adu1.add (((rd l0_5 x5_2)).toNat * 9)).off + 6, none⟩ = some (.int .i64 ((rd_T73 l0_4 (rd l0_5 x5_2)).f4)) ∧ w'.cell? ⟨(adu1.add (((rd l0_5 x5_2)).toNat * 9)).block, (adu1.add (((rd l0_5 x5_2)).toNat * 9)).off + 7, none⟩ = some (.int .i64 ((rd_T73 l0_4 (rd l0_5 x5_2)).f5.f0)) ∧ w'.cell? ⟨(adu1.add (((rd l0_5 x5_2)).toNat * 9)).block, (adu1.add (((rd l0_5 x5_2)).toNat * 9)).off + 8, none⟩ = some (.slice Au1 ((rd_T73 l0_4 (rd l0_5 x5_2)).f5.f1).length cu1)) (ds := []) (bm 40 0) (by kernel_rfl) rfl (by kernel_rfl) ⟨cK BKz1.out 0, cK BKz1.out 1, cK BKz1.out 2, cK BKz1.out 3, cK BKz1.out 4, cK BKz1.out 5, cK BKz1.out 6, cK BKz1.out 7, (bc HB.out hwu9 :), (bc HB.out hwu8 :), (bc HB.out hwu7 :), (bc HB.out hwu6 :), (bc HB.out hwu5 :), (bc HB.out hwu4 :), (bc HB.out hwu3 :), (bc HB.out hwu2 :), (bc HB.out hwu1 :)⟩ (fun hHeld => ?_); refine with_tabW spec_l9Calls.tab12 spec_l9Calls.bits12 (fun HT_ HW_ => ?_)
              generalize wr.drew = wu1 at BKz1 HB HRu1 hxu1 hxu2 hxu3 hxu4 hxu5 hxu6 hxu7 hxu8 hxu9 hHeld ⊢
              refine pZ 0 45 (bm 40 1) HT_.out ?_
              refine pZ 1 46 (bm 40 3) HT_.out ?_
              refine tZ 2 47 (bm 40 7) HT_.out HW_.out hHeld ?_
              refine pZ 3 48 (bm 40 15) HT_.out ?_
              refine pZ 4 49 (bm 40 31) HT_.out ?_
              refine oZ 5 (some 50) (bm 40 63) HT_.out (fun K hK => ?_)
              refine goesN Tryz.func43 #[.int .i64 (rd l0_5 x5_2), .int .i64 0, .int .i64 (wrap64 ((l0_4.length : Int) - 1))] ?_
              with_reducible refine (spec_l1In.calls _ _ _ _ _ A20.out).mono ?_
              rintro e w' ⟨rfl, ⟨nd, rfl⟩⟩
              refine ⟨_, rfl, ?_⟩
              refine hK.out _ _ ⟨cK BKz1.out 0, cK BKz1.out 1, cK BKz1.out 2, cK BKz1.out 3, cK BKz1.out 4, cK BKz1.out 5, cK BKz1.out 6, cK BKz1.out 7, (bc HB.out hwu9 :), (bc HB.out hwu8 :), (bc HB.out hwu7 :), (bc HB.out hwu6 :), (bc HB.out hwu5 :), (bc HB.out hwu4 :), (bc HB.out hwu3 :), (bc HB.out hwu2 :), (bc HB.out hwu1 :)⟩ (fun hHeld => ?_)
              clear hK K
              refine nZ 50 ?_
              refine pZ 6 51 (bm 40 127) HT_.out ?_
              refine pZ 7 52 (bm 40 255) HT_.out ?_
              refine pZ 8 53 (bm 40 511) HT_.out ?_
              refine pZ 10 55 (bm 40 1535) HT_.out ?_
              refine tZ 9 54 (bm 40 2047) HT_.out HW_.out hHeld ?_
              refine pZ 11 56 (bm 40 4095) HT_.out ?_
              refine pZ 12 57 (bm 40 8191) HT_.out ?_
              refine tZ 13 58 (bm 40 16383) HT_.out HW_.out hHeld ?_
              refine pZ 14 59 (bm 40 32767) HT_.out ?_
              refine pZ 15 60 (bm 40 65535) HT_.out ?_
              refine pZ 16 61 (bm 40 131071) HT_.out ?_
              refine pU 17 62 (bm 40 262143) HT_.out ?_
              refine pU 18 63 (bm 40 524287) HT_.out ?_
              refine pU 19 64 (bm 40 1048575) HT_.out ?_
              refine pU 20 65 (bm 40 2097151) HT_.out ?_
              refine pU 21 66 (bm 40 4194303) HT_.out ?_
              refine pU 22 67 (bm 40 8388607) HT_.out ?_
              refine pU 23 68 (bm 40 16777215) HT_.out ?_
              refine pU 24 69 (bm 40 33554431) HT_.out ?_
              refine pU 25 70 (bm 40 67108863) HT_.out ?_
              refine pU 26 71 (bm 40 134217727) HT_.out ?_
              refine pU 27 72 (bm 40 268435455) HT_.out ?_
              refine pU 28 73 (bm 40 536870911) HT_.out ?_
              refine pU 29 74 (bm 40 1073741823) HT_.out ?_
              refine pU 30 75 (bm 40 2147483647) HT_.out ?_
              refine pU 31 76 (bm 40 4294967295) HT_.out ?_
              refine pU 32 77 (bm 40 8589934591) HT_.out ?_
              refine pU 33 78 (bm 40 17179869183) HT_.out ?_
              refine pU 34 79 (bm 40 34359738367) HT_.out ?_
              refine pU 35 80 (bm 40 68719476735) HT_.out ?_
              refine pU 36 81 (bm 40 137438953471) HT_.out ?_
              refine pU 37 82 (bm 40 274877906943) HT_.out ?_
              refine pU 38 83 (bm 40 549755813887) HT_.out ?_
              refine pZ 39 84 (bm 40 1099511627775) HT_.out ?_
              refine done_ (done_of HT_.out (by kernel_rfl)) ?_
              try go_wp2
              go_meet
              case rel => exact ⟨_, (true), rS, H', ⟨by have := HKy1.out; have := HKw1.out; first | omega | exact Nat.le_refl _⟩, ⟨(bX BKz1.out)⟩, ⟨(hX HB.out)⟩⟩
            rw [if_neg c24] at H
            have c24b0 := decide_eq_false c24
            clear c24
            by_cases c26 : x5_2 > 0
            case neg =>
              rw [if_neg c26] at H
              have c26b0 := decide_eq_false c26
              clear c26
              have H' := aM H
              clear H
              try go_wp2
              replace BKz1 := aM (blk_drew BKz1.out)
              replace HB := aM (below_drew1 HB.out)
              have pu1 : 0 ≤ ((rd l0_5 x5_2) : Int) := odA
              have qu1 : (rd l0_5 x5_2) < (l0_4.length : Int) := odA
              obtain ⟨adu1, Au1, cu1, eu1, hxu1, hxu2, hxu3, hxu4, hxu5, hxu6, hxu7, hxu8, hxu9, hlu1, hiu1⟩ := at_T73 HR0_4.out (rd l0_5 x5_2) pu1 qu1
              have hwu1 := hxu9
              have hwu2 := hxu8
              have hwu3 := hxu7
              have hwu4 := hxu6
              have hwu5 := hxu5
              have hwu6 := hxu4
              have hwu7 := hxu3
              have hwu8 := hxu2
              have hwu9 := hxu1
              cases eu1
              replace hxu1 := bc HB.out hxu1
              replace hxu2 := bc HB.out hxu2
              replace hxu3 := bc HB.out hxu3
              replace hxu4 := bc HB.out hxu4
              replace hxu5 := bc HB.out hxu5
              replace hxu6 := bc HB.out hxu6
              replace hxu7 := bc HB.out hxu7
              replace hxu8 := bc HB.out hxu8
              replace hxu9 := bc HB.out hxu9
              have HRu1 := aM hiu1
              have HCu1 := aM hlu1
              clear hiu1 hlu1
              replace pu1 := eq_true pu1
              replace qu1 := eq_true qu1
              refine start_ (n := 40) (S := fun w' => w'.cell? ⟨gbz1, 0, none⟩ = some (.slice A0_0 l0_0.length c0_0) ∧ w'.cell? ⟨gbz1, 1, none⟩ = some (.slice A0_1 l0_1.length c0_1) ∧ w'.cell? ⟨gbz1, 2, none⟩ = some (.slice A0_2 l0_2.length c0_2) ∧ w'.cell? ⟨gbz1, 3, none⟩ = some (.int .i64 a0_3) ∧ w'.cell? ⟨gbz1, 4, none⟩ = some (.slice (some adu1) l0_4.length c0_4) ∧ w'.cell? ⟨gbz1, 5, none⟩ = some (.slice (some adv1) l0_5.length c0_5) ∧ w'.cell? ⟨gbz1, 6, none⟩ = some (.slice A0_6 l0_6.length c0_6) ∧ w'.cell? ⟨gbz1, 7, none⟩ = some (.int .i64 a0_7) ∧ w'.cell? (adu1.add (((rd l0_5 x5_2)).toNat * 9)) = some (.int .i64 ((rd_T73 l0_4 (rd l0_5 x5_2)).f0)) ∧ w'.cell? ⟨(adu1.add (((rd l0_5 x5_2)).toNat * 9)).block, (adu1.add (((rd l0_5 x5_2)).toNat * 9)).off + 1, none⟩ = some (.int .i64 ((rd_T73 l0_4 (rd l0_5 x5_2)).f1.f0)) ∧ w'.cell? ⟨(adu1.add (((rd l0_5 x5_2)).toNat * 9)).block, (adu1.add (((rd l0_5 x5_2)).toNat * 9)).off + 2, none⟩ = some (.int .i64 ((rd_T73 l0_4 (rd l0_5 x5_2)).f1.f1)) ∧ w'.cell? ⟨(adu1.add (((rd l0_5 x5_2)).toNat * 9)).block, (adu1.add (((rd l0_5 x5_2)).toNat * 9)).off + 3, none⟩ = some (.int .i64 ((rd_T73 l0_4 (rd l0_5 x5_2)).f1.f2)) ∧ w'.cell? ⟨(adu1.add (((rd l0_5 x5_2)).toNat * 9)).block, (adu1.add (((rd l0_5 x5_2)).toNat * 9)).off + 4, none⟩ = some (.int .i64 ((rd_T73 l0_4 (rd l0_5 x5_2)).f2)) ∧ w'.cell? ⟨(adu1.add (((rd l0_5 x5_2)).toNat * 9)).block, (adu1.add (((rd l0_5 x5_2)).toNat * 9)).off + 5, none⟩ = some (.int .i64 ((rd_T73 l0_4 (rd l0_5 x5_2)).f3)) ∧ w'.cell? ⟨(adu1.add (((rd l0_5 x5_2)).toNat * 9)).block, (adu1.add (((rd l0_5 x5_2)).toNat * 9)).off + 6, none⟩ = some (.int .i64 ((rd_T73 l0_4 (rd l0_5 x5_2)).f4)) ∧ w'.cell? ⟨(adu1.add (((rd l0_5 x5_2)).toNat * 9)).block, (adu1.add (((rd l0_5 x5_2)).toNat * 9)).off + 7, none⟩ = some (.int .i64 ((rd_T73 l0_4 (rd l0_5 x5_2)).f5.f0)) ∧ w'.cell? ⟨(adu1.add (((rd l0_5 x5_2)).toNat * 9)).block, (adu1.add (((rd l0_5 x5_2)).toNat * 9)).off + 8, none⟩ = some (.slice Au1 ((rd_T73 l0_4 (rd l0_5 x5_2)).f5.f1).length cu1)) (ds := []) (bm 40 0) (by kernel_rfl) rfl (by kernel_rfl) ⟨cK BKz1.out 0, cK BKz1.out 1, cK BKz1.out 2, cK BKz1.out 3, cK BKz1.out 4, cK BKz1.out 5, cK BKz1.out 6, cK BKz1.out 7, (bc HB.out hwu9 :), (bc HB.out hwu8 :), (bc HB.out hwu7 :), (bc HB.out hwu6 :), (bc HB.out hwu5 :), (bc HB.out hwu4 :), (bc HB.out hwu3 :), (bc HB.out hwu2 :), (bc HB.out hwu1 :)⟩ (fun hHeld => ?_); refine with_tabW spec_l9Calls.tab12 spec_l9Calls.bits12 (fun HT_ HW_ => ?_)
              generalize wr.drew = wu1 at BKz1 HB HRu1 hxu1 hxu2 hxu3 hxu4 hxu5 hxu6 hxu7 hxu8 hxu9 hHeld ⊢
              refine pZ 0 45 (bm 40 1) HT_.out ?_
              refine pZ 1 46 (bm 40 3) HT_.out ?_
              refine tZ 2 47 (bm 40 7) HT_.out HW_.out hHeld ?_
              refine pZ 3 48 (bm 40 15) HT_.out ?_
              refine pZ 4 49 (bm 40 31) HT_.out ?_
              refine oZ 5 (some 50) (bm 40 63) HT_.out (fun K hK => ?_)
              refine goesN Tryz.func43 #[.int .i64 (rd l0_5 x5_2), .int .i64 0, .int .i64 (wrap64 ((l0_4.length : Int) - 1))] ?_
              with_reducible refine (spec_l1In.calls _ _ _ _ _ A20.out).mono ?_
              rintro e w' ⟨rfl, ⟨nd, rfl⟩⟩
              refine ⟨_, rfl, ?_⟩
              refine hK.out _ _ ⟨cK BKz1.out 0, cK BKz1.out 1, cK BKz1.out 2, cK BKz1.out 3, cK BKz1.out 4, cK BKz1.out 5, cK BKz1.out 6, cK BKz1.out 7, (bc HB.out hwu9 :), (bc HB.out hwu8 :), (bc HB.out hwu7 :), (bc HB.out hwu6 :), (bc HB.out hwu5 :), (bc HB.out hwu4 :), (bc HB.out hwu3 :), (bc HB.out hwu2 :), (bc HB.out hwu1 :)⟩ (fun hHeld => ?_)
              clear hK K
              refine nZ 50 ?_
              refine pZ 6 51 (bm 40 127) HT_.out ?_
              refine pZ 7 52 (bm 40 255) HT_.out ?_
              refine pZ 8 53 (bm 40 511) HT_.out ?_
              refine pZ 10 55 (bm 40 1535) HT_.out ?_
              refine tZ 9 54 (bm 40 2047) HT_.out HW_.out hHeld ?_
              refine pZ 11 56 (bm 40 4095) HT_.out ?_
              refine pZ 12 57 (bm 40 8191) HT_.out ?_
              refine tZ 13 58 (bm 40 16383) HT_.out HW_.out hHeld ?_
              refine pZ 14 59 (bm 40 32767) HT_.out ?_
              refine pZ 15 60 (bm 40 65535) HT_.out ?_
              refine pZ 16 61 (bm 40 131071) HT_.out ?_
              refine pZ 17 62 (bm 40 262143) HT_.out ?_
              refine pZ 18 63 (bm 40 524287) HT_.out ?_
              refine pZ 19 64 (bm 40 1048575) HT_.out ?_
              refine pU 20 65 (bm 40 2097151) HT_.out ?_
              refine pU 21 66 (bm 40 4194303) HT_.out ?_
              refine pU 22 67 (bm 40 8388607) HT_.out ?_
              refine pU 23 68 (bm 40 16777215) HT_.out ?_
              refine pU 24 69 (bm 40 33554431) HT_.out ?_
              refine pU 25 70 (bm 40 67108863) HT_.out ?_
              refine pU 26 71 (bm 40 134217727) HT_.out ?_
              refine pU 27 72 (bm 40 268435455) HT_.out ?_
              refine pU 28 73 (bm 40 536870911) HT_.out ?_
              refine pU 29 74 (bm 40 1073741823) HT_.out ?_
              refine pU 30 75 (bm 40 2147483647) HT_.out ?_
              refine pU 31 76 (bm 40 4294967295) HT_.out ?_
              refine pU 32 77 (bm 40 8589934591) HT_.out ?_
              refine pU 33 78 (bm 40 17179869183) HT_.out ?_
              refine pU 34 79 (bm 40 34359738367) HT_.out ?_
              refine pU 35 80 (bm 40 68719476735) HT_.out ?_
              refine pU 36 81 (bm 40 137438953471) HT_.out ?_
              refine pU 37 82 (bm 40 274877906943) HT_.out ?_
              refine pZ 38 83 (bm 40 549755813887) HT_.out ?_
              refine pZ 39 84 (bm 40 1099511627775) HT_.out ?_
              refine done_ (done_of HT_.out (by kernel_rfl)) ?_
              try go_wp2
              go_meet
              case rel => exact ⟨_, (false), rS, H', ⟨by have := HKy1.out; have := HKw1.out; first | omega | exact Nat.le_refl _⟩, ⟨(bX BKz1.out)⟩, ⟨(hX HB.out)⟩⟩
            rw [if_pos c26] at H
            have c26b0 := decide_eq_true c26
            clear c26
            obtain ⟨ji27, hji27⟩ : ∃ j_ : Int, (wrap64 (x5_2 - 1)) = j_ := ⟨_, rfl⟩
            replace H : (if 0 ≤ (ji27) then (if (ji27) < (l0_5.length : Int) then (if 0 ≤ (rd l0_5 (ji27)) then (if (rd l0_5 (ji27)) < (l0_4.length : Int) then (spec_l9Calls.j2 k2 x3_1 x5_2 (rd l0_5 x5_2) (decide (((rd_T73 l0_4 (rd l0_5 (ji27))).f3) > ((rd_T73 l0_4 (rd l0_5 x5_2)).f3))) l0_0 l0_1 l0_2 a0_3 l0_4 l0_5 l0_6 a0_7) else (none)) else (none)) else (none)) else (none)) = some r := by first | (rw [hji27] at H; exact H) | (simp only [hji27] at H ⊢; exact H)
            (try rw [hji27] at A20)
            have hji27w : (IntKind.i64.wrap (x5_2 - 1)) = ji27 := (i64_w _).trans hji27
            replace H := ifP H; obtain ⟨c28, H⟩ := H
            have c28b0 := decide_eq_true c28
            clear c28
            replace H := ifP H; obtain ⟨c29, H⟩ := H
            have c29b0 := decide_eq_true c29
            clear c29
            replace H := ifP H; obtain ⟨c30, H⟩ := H
            have c30b0 := decide_eq_true c30
            clear c30
            replace H := ifP H; obtain ⟨c31, H⟩ := H
            have c31b0 := decide_eq_true c31
            clear c31
            have H' := aM H
            clear H
            try go_wp2
            replace BKz1 := aM (blk_drew BKz1.out)
            replace HB := aM (below_drew1 HB.out)
            have pu1 : 0 ≤ ((rd l0_5 x5_2) : Int) := odA
            have qu1 : (rd l0_5 x5_2) < (l0_4.length : Int) := odA
            obtain ⟨adu1, Au1, cu1, eu1, hxu1, hxu2, hxu3, hxu4, hxu5, hxu6, hxu7, hxu8, hxu9, hlu1, hiu1⟩ := at_T73 HR0_4.out (rd l0_5 x5_2) pu1 qu1
            have hwu1 := hxu9
            have hwu2 := hxu8
            have hwu3 := hxu7
            have hwu4 := hxu6
            have hwu5 := hxu5
            have hwu6 := hxu4
            have hwu7 := hxu3
            have hwu8 := hxu2
            have hwu9 := hxu1
            cases eu1
            replace hxu1 := bc HB.out hxu1
            replace hxu2 := bc HB.out hxu2
            replace hxu3 := bc HB.out hxu3
            replace hxu4 := bc HB.out hxu4
            replace hxu5 := bc HB.out hxu5
            replace hxu6 := bc HB.out hxu6
            replace hxu7 := bc HB.out hxu7
            replace hxu8 := bc HB.out hxu8
            replace hxu9 := bc HB.out hxu9
            have HRu1 := aM hiu1
            have HCu1 := aM hlu1
            clear hiu1 hlu1
            replace pu1 := eq_true pu1
            replace qu1 := eq_true qu1
            have pu2 : 0 ≤ ((ji27) : Int) := odA
            have qu2 : (ji27) < (l0_5.length : Int) := odA
            obtain ⟨adu2, eu2, hxu10⟩ := Kd.at_int HR0_5.out (ji27) pu2 qu2
            have hwu10 := hxu10
            obtain rfl : adv1 = adu2 := (by injection eu2)
            replace hxu10 := bc HB.out hxu10
            replace pu2 := eq_true pu2
            replace qu2 := eq_true qu2
            have pu3 : 0 ≤ ((rd l0_5 (ji27)) : Int) := odA
            have qu3 : (rd l0_5 (ji27)) < (l0_4.length : Int) := odA
            obtain ⟨adu3, Au2, cu2, eu3, hxu11, hxu12, hxu13, hxu14, hxu15, hxu16, hxu17, hxu18, hxu19, hlu2, hiu2⟩ := at_T73 HR0_4.out (rd l0_5 (ji27)) pu3 qu3
            have hwu11 := hxu19
            have hwu12 := hxu18
            have hwu13 := hxu17
            have hwu14 := hxu16
            have hwu15 := hxu15
            have hwu16 := hxu14
            have hwu17 := hxu13
            have hwu18 := hxu12
            have hwu19 := hxu11
            obtain rfl : adu1 = adu3 := (by injection eu3)
            replace hxu11 := bc HB.out hxu11
            replace hxu12 := bc HB.out hxu12
            replace hxu13 := bc HB.out hxu13
            replace hxu14 := bc HB.out hxu14
            replace hxu15 := bc HB.out hxu15
            replace hxu16 := bc HB.out hxu16
            replace hxu17 := bc HB.out hxu17
            replace hxu18 := bc HB.out hxu18
            replace hxu19 := bc HB.out hxu19
            have HRu2 := aM hiu2
            have HCu2 := aM hlu2
            clear hiu2 hlu2
            replace pu3 := eq_true pu3
            replace qu3 := eq_true qu3
            have pu4 : 0 ≤ ((rd l0_5 x5_2) : Int) := odA
            have qu4 : (rd l0_5 x5_2) < (l0_4.length : Int) := odA
            obtain ⟨adu4, Au3, cu3, eu4, hxu20, hxu21, hxu22, hxu23, hxu24, hxu25, hxu26, hxu27, hxu28, hlu3, hiu3⟩ := at_T73 HR0_4.out (rd l0_5 x5_2) pu4 qu4
            have hwu20 := hxu28
            have hwu21 := hxu27
            have hwu22 := hxu26
            have hwu23 := hxu25
            have hwu24 := hxu24
            have hwu25 := hxu23
            have hwu26 := hxu22
            have hwu27 := hxu21
            have hwu28 := hxu20
            obtain rfl : adu1 = adu4 := (by injection eu4)
            replace hxu20 := bc HB.out hxu20
            replace hxu21 := bc HB.out hxu21
            replace hxu22 := bc HB.out hxu22
            replace hxu23 := bc HB.out hxu23
            replace hxu24 := bc HB.out hxu24
            replace hxu25 := bc HB.out hxu25
            replace hxu26 := bc HB.out hxu26
            replace hxu27 := bc HB.out hxu27
            replace hxu28 := bc HB.out hxu28
            have HRu3 := aM hiu3
            have HCu3 := aM hlu3
            clear hiu3 hlu3
            replace pu4 := eq_true pu4
            replace qu4 := eq_true qu4
            have ea_ := Option.some.inj (hxu9.symm.trans hxu28)
            injection ea_ with ea_ en_ ec_
            subst ea_
            subst ec_
            clear en_
            refine start_ (n := 40) (S := fun w' => w'.cell? ⟨gbz1, 0, none⟩ = some (.slice A0_0 l0_0.length c0_0) ∧ w'.cell? ⟨gbz1, 1, none⟩ = some (.slice A0_1 l0_1.length c0_1) ∧ w'.cell? ⟨gbz1, 2, none⟩ = some (.slice A0_2 l0_2.length c0_2) ∧ w'.cell? ⟨gbz1, 3, none⟩ = some (.int .i64 a0_3) ∧ w'.cell? ⟨gbz1, 4, none⟩ = some (.slice (some adu1) l0_4.length c0_4) ∧ w'.cell? ⟨gbz1, 5, none⟩ = some (.slice (some adv1) l0_5.length c0_5) ∧ w'.cell? ⟨gbz1, 6, none⟩ = some (.slice A0_6 l0_6.length c0_6) ∧ w'.cell? ⟨gbz1, 7, none⟩ = some (.int .i64 a0_7) ∧ w'.cell? (adu1.add (((rd l0_5 x5_2)).toNat * 9)) = some (.int .i64 ((rd_T73 l0_4 (rd l0_5 x5_2)).f0)) ∧ w'.cell? ⟨(adu1.add (((rd l0_5 x5_2)).toNat * 9)).block, (adu1.add (((rd l0_5 x5_2)).toNat * 9)).off + 1, none⟩ = some (.int .i64 ((rd_T73 l0_4 (rd l0_5 x5_2)).f1.f0)) ∧ w'.cell? ⟨(adu1.add (((rd l0_5 x5_2)).toNat * 9)).block, (adu1.add (((rd l0_5 x5_2)).toNat * 9)).off + 2, none⟩ = some (.int .i64 ((rd_T73 l0_4 (rd l0_5 x5_2)).f1.f1)) ∧ w'.cell? ⟨(adu1.add (((rd l0_5 x5_2)).toNat * 9)).block, (adu1.add (((rd l0_5 x5_2)).toNat * 9)).off + 3, none⟩ = some (.int .i64 ((rd_T73 l0_4 (rd l0_5 x5_2)).f1.f2)) ∧ w'.cell? ⟨(adu1.add (((rd l0_5 x5_2)).toNat * 9)).block, (adu1.add (((rd l0_5 x5_2)).toNat * 9)).off + 4, none⟩ = some (.int .i64 ((rd_T73 l0_4 (rd l0_5 x5_2)).f2)) ∧ w'.cell? ⟨(adu1.add (((rd l0_5 x5_2)).toNat * 9)).block, (adu1.add (((rd l0_5 x5_2)).toNat * 9)).off + 5, none⟩ = some (.int .i64 ((rd_T73 l0_4 (rd l0_5 x5_2)).f3)) ∧ w'.cell? ⟨(adu1.add (((rd l0_5 x5_2)).toNat * 9)).block, (adu1.add (((rd l0_5 x5_2)).toNat * 9)).off + 6, none⟩ = some (.int .i64 ((rd_T73 l0_4 (rd l0_5 x5_2)).f4)) ∧ w'.cell? ⟨(adu1.add (((rd l0_5 x5_2)).toNat * 9)).block, (adu1.add (((rd l0_5 x5_2)).toNat * 9)).off + 7, none⟩ = some (.int .i64 ((rd_T73 l0_4 (rd l0_5 x5_2)).f5.f0)) ∧ w'.cell? ⟨(adu1.add (((rd l0_5 x5_2)).toNat * 9)).block, (adu1.add (((rd l0_5 x5_2)).toNat * 9)).off + 8, none⟩ = some (.slice Au1 ((rd_T73 l0_4 (rd l0_5 x5_2)).f5.f1).length cu1) ∧ w'.cell? (adv1.add ((ji27)).toNat) = some (.int .i64 (rd l0_5 (ji27))) ∧ w'.cell? (adu1.add (((rd l0_5 (ji27))).toNat * 9)) = some (.int .i64 ((rd_T73 l0_4 (rd l0_5 (ji27))).f0)) ∧ w'.cell? ⟨(adu1.add (((rd l0_5 (ji27))).toNat * 9)).block, (adu1.add (((rd l0_5 (ji27))).toNat * 9)).off + 1, none⟩ = some (.int .i64 ((rd_T73 l0_4 (rd l0_5 (ji27))).f1.f0)) ∧ w'.cell? ⟨(adu1.add (((rd l0_5 (ji27))).toNat * 9)).block, (adu1.add (((rd l0_5 (ji27))).toNat * 9)).off + 2, none⟩ = some (.int .i64 ((rd_T73 l0_4 (rd l0_5 (ji27))).f1.f1)) ∧ w'.cell? ⟨(adu1.add (((rd l0_5 (ji27))).toNat * 9)).block, (adu1.add (((rd l0_5 (ji27))).toNat * 9)).off + 3, none⟩ = some (.int .i64 ((rd_T73 l0_4 (rd l0_5 (ji27))).f1.f2)) ∧ w'.cell? ⟨(adu1.add (((rd l0_5 (ji27))).toNat * 9)).block, (adu1.add (((rd l0_5 (ji27))).toNat * 9)).off + 4, none⟩ = some (.int .i64 ((rd_T73 l0_4 (rd l0_5 (ji27))).f2)) ∧ w'.cell? ⟨(adu1.add (((rd l0_5 (ji27))).toNat * 9)).block, (adu1.add (((rd l0_5 (ji27))).toNat * 9)).off + 5, none⟩ = some (.int .i64 ((rd_T73 l0_4 (rd l0_5 (ji27))).f3)) ∧ w'.cell? ⟨(adu1.add (((rd l0_5 (ji27))).toNat * 9)).block, (adu1.add (((rd l0_5 (ji27))).toNat * 9)).off + 6, none⟩ = some (.int .i64 ((rd_T73 l0_4 (rd l0_5 (ji27))).f4)) ∧ w'.cell? ⟨(adu1.add (((rd l0_5 (ji27))).toNat * 9)).block, (adu1.add (((rd l0_5 (ji27))).toNat * 9)).off + 7, none⟩ = some (.int .i64 ((rd_T73 l0_4 (rd l0_5 (ji27))).f5.f0)) ∧ w'.cell? ⟨(adu1.add (((rd l0_5 (ji27))).toNat * 9)).block, (adu1.add (((rd l0_5 (ji27))).toNat * 9)).off + 8, none⟩ = some (.slice Au2 ((rd_T73 l0_4 (rd l0_5 (ji27))).f5.f1).length cu2) ∧ w'.cell? (adu1.add (((rd l0_5 x5_2)).toNat * 9)) = some (.int .i64 ((rd_T73 l0_4 (rd l0_5 x5_2)).f0)) ∧ w'.cell? ⟨(adu1.add (((rd l0_5 x5_2)).toNat * 9)).block, (adu1.add (((rd l0_5 x5_2)).toNat * 9)).off + 1, none⟩ = some (.int .i64 ((rd_T73 l0_4 (rd l0_5 x5_2)).f1.f0)) ∧ w'.cell? ⟨(adu1.add (((rd l0_5 x5_2)).toNat * 9)).block, (adu1.add (((rd l0_5 x5_2)).toNat * 9)).off + 2, none⟩ = some (.int .i64 ((rd_T73 l0_4 (rd l0_5 x5_2)).f1.f1)) ∧ w'.cell? ⟨(adu1.add (((rd l0_5 x5_2)).toNat * 9)).block, (adu1.add (((rd l0_5 x5_2)).toNat * 9)).off + 3, none⟩ = some (.int .i64 ((rd_T73 l0_4 (rd l0_5 x5_2)).f1.f2)) ∧ w'.cell? ⟨(adu1.add (((rd l0_5 x5_2)).toNat * 9)).block, (adu1.add (((rd l0_5 x5_2)).toNat * 9)).off + 4, none⟩ = some (.int .i64 ((rd_T73 l0_4 (rd l0_5 x5_2)).f2)) ∧ w'.cell? ⟨(adu1.add (((rd l0_5 x5_2)).toNat * 9)).block, (adu1.add (((rd l0_5 x5_2)).toNat * 9)).off + 5, none⟩ = some (.int .i64 ((rd_T73 l0_4 (rd l0_5 x5_2)).f3)) ∧ w'.cell? ⟨(adu1.add (((rd l0_5 x5_2)).toNat * 9)).block, (adu1.add (((rd l0_5 x5_2)).toNat * 9)).off + 6, none⟩ = some (.int .i64 ((rd_T73 l0_4 (rd l0_5 x5_2)).f4)) ∧ w'.cell? ⟨(adu1.add (((rd l0_5 x5_2)).toNat * 9)).block, (adu1.add (((rd l0_5 x5_2)).toNat * 9)).off + 7, none⟩ = some (.int .i64 ((rd_T73 l0_4 (rd l0_5 x5_2)).f5.f0)) ∧ w'.cell? ⟨(adu1.add (((rd l0_5 x5_2)).toNat * 9)).block, (adu1.add (((rd l0_5 x5_2)).toNat * 9)).off + 8, none⟩ = some (.slice Au1 ((rd_T73 l0_4 (rd l0_5 x5_2)).f5.f1).length cu1)) (ds := []) (bm 40 0) (by kernel_rfl) rfl (by kernel_rfl) ⟨cK BKz1.out 0, cK BKz1.out 1, cK BKz1.out 2, cK BKz1.out 3, cK BKz1.out 4, cK BKz1.out 5, cK BKz1.out 6, cK BKz1.out 7, (bc HB.out hwu9 :), (bc HB.out hwu8 :), (bc HB.out hwu7 :), (bc HB.out hwu6 :), (bc HB.out hwu5 :), (bc HB.out hwu4 :), (bc HB.out hwu3 :), (bc HB.out hwu2 :), (bc HB.out hwu1 :), (bc HB.out hwu10 :), (bc HB.out hwu19 :), (bc HB.out hwu18 :), (bc HB.out hwu17 :), (bc HB.out hwu16 :), (bc HB.out hwu15 :), (bc HB.out hwu14 :), (bc HB.out hwu13 :), (bc HB.out hwu12 :), (bc HB.out hwu11 :), (bc HB.out hwu28 :), (bc HB.out hwu27 :), (bc HB.out hwu26 :), (bc HB.out hwu25 :), (bc HB.out hwu24 :), (bc HB.out hwu23 :), (bc HB.out hwu22 :), (bc HB.out hwu21 :), (bc HB.out hwu20 :)⟩ (fun hHeld => ?_); refine with_tabW spec_l9Calls.tab12 spec_l9Calls.bits12 (fun HT_ HW_ => ?_)
            generalize wr.drew = wu1 at BKz1 HB HRu1 HRu2 HRu3 hxu1 hxu2 hxu3 hxu4 hxu5 hxu6 hxu7 hxu8 hxu9 hxu10 hxu11 hxu12 hxu13 hxu14 hxu15 hxu16 hxu17 hxu18 hxu19 hxu20 hxu21 hxu22 hxu23 hxu24 hxu25 hxu26 hxu27 hxu28 hHeld ⊢
            refine pZ 0 45 (bm 40 1) HT_.out ?_
            refine pZ 1 46 (bm 40 3) HT_.out ?_
            refine tZ 2 47 (bm 40 7) HT_.out HW_.out hHeld ?_
            refine pZ 3 48 (bm 40 15) HT_.out ?_
            refine pZ 4 49 (bm 40 31) HT_.out ?_
            refine oZ 5 (some 50) (bm 40 63) HT_.out (fun K hK => ?_)
            refine goesN Tryz.func43 #[.int .i64 (rd l0_5 x5_2), .int .i64 0, .int .i64 (wrap64 ((l0_4.length : Int) - 1))] ?_
            with_reducible refine (spec_l1In.calls _ _ _ _ _ A20.out).mono ?_
            rintro e w' ⟨rfl, ⟨nd, rfl⟩⟩
            refine ⟨_, rfl, ?_⟩
            refine hK.out _ _ ⟨cK BKz1.out 0, cK BKz1.out 1, cK BKz1.out 2, cK BKz1.out 3, cK BKz1.out 4, cK BKz1.out 5, cK BKz1.out 6, cK BKz1.out 7, (bc HB.out hwu9 :), (bc HB.out hwu8 :), (bc HB.out hwu7 :), (bc HB.out hwu6 :), (bc HB.out hwu5 :), (bc HB.out hwu4 :), (bc HB.out hwu3 :), (bc HB.out hwu2 :), (bc HB.out hwu1 :), (bc HB.out hwu10 :), (bc HB.out hwu19 :), (bc HB.out hwu18 :), (bc HB.out hwu17 :), (bc HB.out hwu16 :), (bc HB.out hwu15 :), (bc HB.out hwu14 :), (bc HB.out hwu13 :), (bc HB.out hwu12 :), (bc HB.out hwu11 :), (bc HB.out hwu28 :), (bc HB.out hwu27 :), (bc HB.out hwu26 :), (bc HB.out hwu25 :), (bc HB.out hwu24 :), (bc HB.out hwu23 :), (bc HB.out hwu22 :), (bc HB.out hwu21 :), (bc HB.out hwu20 :)⟩ (fun hHeld => ?_)
            clear hK K
            refine nZ 50 ?_
            refine pZ 6 51 (bm 40 127) HT_.out ?_
            refine pZ 7 52 (bm 40 255) HT_.out ?_
            refine pZ 8 53 (bm 40 511) HT_.out ?_
            refine pZ 10 55 (bm 40 1535) HT_.out ?_
            refine tZ 9 54 (bm 40 2047) HT_.out HW_.out hHeld ?_
            refine pZ 11 56 (bm 40 4095) HT_.out ?_
            refine pZ 12 57 (bm 40 8191) HT_.out ?_
            refine tZ 13 58 (bm 40 16383) HT_.out HW_.out hHeld ?_
            refine pZ 14 59 (bm 40 32767) HT_.out ?_
            refine pZ 15 60 (bm 40 65535) HT_.out ?_
            refine pZ 16 61 (bm 40 131071) HT_.out ?_
            refine pZ 17 62 (bm 40 262143) HT_.out ?_
            refine pZ 18 63 (bm 40 524287) HT_.out ?_
            refine pZ 19 64 (bm 40 1048575) HT_.out ?_
            refine pZ 20 65 (bm 40 2097151) HT_.out ?_
            refine pZ 22 67 (bm 40 6291455) HT_.out ?_
            refine pZ 24 69 (bm 40 23068671) HT_.out ?_
            refine pZ 25 70 (bm 40 56623103) HT_.out ?_
            refine pZ 31 76 (bm 40 2204106751) HT_.out ?_
            refine pZ 33 78 (bm 40 10794041343) HT_.out ?_
            refine tZ 21 66 (bm 40 10796138495) HT_.out HW_.out hHeld ?_
            refine tZ 23 68 (bm 40 10804527103) HT_.out HW_.out hHeld ?_
            refine pZ 26 71 (bm 40 10871635967) HT_.out ?_
            refine tZ 27 72 (bm 40 11005853695) HT_.out HW_.out hHeld ?_
            refine pZ 28 73 (bm 40 11274289151) HT_.out ?_
            refine pZ 29 74 (bm 40 11811160063) HT_.out ?_
            refine tZ 30 75 (bm 40 12884901887) HT_.out HW_.out hHeld ?_
            refine tZ 32 77 (bm 40 17179869183) HT_.out HW_.out hHeld ?_
            refine pZ 34 79 (bm 40 34359738367) HT_.out ?_
            refine pZ 35 80 (bm 40 68719476735) HT_.out ?_
            refine tZ 36 81 (bm 40 137438953471) HT_.out HW_.out hHeld ?_
            refine pZ 37 82 (bm 40 274877906943) HT_.out ?_
            refine pZ 38 83 (bm 40 549755813887) HT_.out ?_
            refine pZ 39 84 (bm 40 1099511627775) HT_.out ?_
            refine done_ (done_of HT_.out (by kernel_rfl)) ?_
            try go_wp2
            go_meet
            case rel => exact ⟨_, (decide (((rd_T73 l0_4 (rd l0_5 (ji27))).f3) > ((rd_T73 l0_4 (rd l0_5 x5_2)).f3))), (by first | rfl | (simp; done) | (simp only [← hji27] <;> (first | rfl | simp)) | (simp [*]; done)), H', ⟨by have := HKy1.out; have := HKw1.out; first | omega | exact Nat.le_refl _⟩, ⟨(bX BKz1.out)⟩, ⟨(hX HB.out)⟩⟩
          case rest =>
            clear HC18
            try clear p1
            try clear q1
            try clear hx1
            try clear p2
            try clear c3
            try clear p6
            try clear p10
            try clear q10
            try clear hx10
            try clear hx108_0
            try clear hx108_1
            try clear hx108_2
            try clear hx108_3
            try clear hx108_4
            try clear hx108_5
            try clear hx108_6
            try clear hx108_7
            try clear hx108_8
            try clear p108
            try clear q108
            obtain ⟨kq, x84_17, rfl, HA, HJu1, BKz1, HB⟩ := hcut
            cases kq with
            | zero => exact absurd HA.out (by simp [spec_l9Calls.j2])
            | succ kj17 =>
              have H := HA.out
              clear HA
              simp only [spec_l9Calls.j2] at H
              by_cases c35 : x84_17 = true
              · subst c35
                rw [if_pos rfl] at H
                obtain rfl := sI H
                go_wp2
                go_ret
                exact ⟨rE, (hX HB.out)⟩
              replace c35 := Bool.eq_false_iff.mpr c35
              subst c35
              rw [if_neg nft] at H
              have H' := aM H
              clear H
              go_wp2
              go_loopg [7] kj17 (fun kq v7 w' => ∃ (x7_4 : Int), v7 = .int .i64 x7_4 ∧ Aside0 (spec_l9Calls.l2 kq x3_1 x5_2 (rd l0_5 x5_2) x7_4 l0_0 l0_1 l0_2 a0_3 l0_4 l0_5 l0_6 a0_7 = some r) ∧ Aside0 (kq ≤ kj17) ∧ Aside0 (w'.heap[gbz1]? = some (.cells #[(.slice A0_0 l0_0.length c0_0), (.slice A0_1 l0_1.length c0_1), (.slice A0_2 l0_2.length c0_2), .int .i64 a0_3, (.slice A0_4 l0_4.length c0_4), (.slice (some adv1) l0_5.length c0_5), (.slice A0_6 l0_6.length c0_6), .int .i64 a0_7] 43 (0, 0))) ∧ Aside0 (Below w.heap.size w w'))
              case atStart => exact ⟨(0), rS, H', ⟨Nat.le_refl _⟩, ⟨(bX BKz1.out)⟩, ⟨(hX HB.out)⟩⟩
              case round =>
                clear H'
                try clear p1
                try clear q1
                try clear hx1
                try clear p2
                try clear c3
                try clear p6
                try clear p10
                try clear q10
                try clear hx10
                try clear c35
                try clear hx108_0
                try clear hx108_1
                try clear hx108_2
                try clear hx108_3
                try clear hx108_4
                try clear hx108_5
                try clear hx108_6
                try clear hx108_7
                try clear hx108_8
                try clear p108
                try clear q108
                obtain ⟨x7_4, rfl, HA, HKs1, BKz1, HB⟩ := hrel
                cases gk with
                | zero => exact absurd HA.out (by simp [spec_l9Calls.l2])
                | succ k4 =>
                  have H := HA.out
                  clear HA
                  simp only [spec_l9Calls.l2] at H
                  by_cases c36 : x7_4 < x5_2
                  case neg =>
                    rw [if_neg c36] at H
                    have c36b0 := decide_eq_false c36
                    clear c36
                    have H' := aM H
                    clear H
                    go_wp2
                    go_roundg k4
                    case measure => have := HKy1.out; have := HKw1.out; have := HJu1.out; have := HKs1.out; omega
                    case rel => exact ⟨(wrap64 (x5_2 + 1)), rS, H', ⟨by have := HKy1.out; have := HKw1.out; have := HJu1.out; have := HKs1.out; omega⟩, ⟨(bX BKz1.out)⟩, ⟨(hX HB.out)⟩⟩
                  rw [if_pos c36] at H
                  have c36b0 := decide_eq_true c36
                  clear c36
                  replace H := ifP H; obtain ⟨c37, H⟩ := H
                  have c37b0 := decide_eq_true c37
                  clear c37
                  replace H := ifP H; obtain ⟨c38, H⟩ := H
                  have c38b0 := decide_eq_true c38
                  clear c38
                  by_cases c39 : (rd l0_5 x7_4) = (rd l0_5 x5_2)
                  · rw [if_pos c39] at H
                    obtain ⟨c39b0, c39b1⟩ := eqT c39
                    clear c39
                    obtain rfl := sI H
                    obtain ⟨hczr1, hczr2, hczr3, hczr4, hczr5, hczr6, hczr7, hczr8, hfzr1, hfzr2, hfzr3, hfzr4, hfzr5, hfzr6, hfzr7, hfzr8⟩ := cZ8 BKz1.out
                    have pr1 : 0 ≤ (x7_4 : Int) := odA
                    have qr1 : x7_4 < (l0_5.length : Int) := odA
                    obtain ⟨adr1, er1, hxr1⟩ := at_ib HR0_5.out HB.out x7_4 pr1 qr1
                    obtain rfl : adv1 = adr1 := (by injection er1)
                    replace pr1 := eq_true pr1
                    replace qr1 := eq_true qr1
                    go_wp2
                    go_ret
                    exact ⟨rE, (hX HB.out)⟩
                  rw [if_neg c39] at H
                  obtain ⟨c39b0, c39b1⟩ := eqF c39
                  have H' := aM H
                  clear H
                  obtain ⟨hczr1, hczr2, hczr3, hczr4, hczr5, hczr6, hczr7, hczr8, hfzr1, hfzr2, hfzr3, hfzr4, hfzr5, hfzr6, hfzr7, hfzr8⟩ := cZ8 BKz1.out
                  have pr1 : 0 ≤ (x7_4 : Int) := odA
                  have qr1 : x7_4 < (l0_5.length : Int) := odA
                  obtain ⟨adr1, er1, hxr1⟩ := at_ib HR0_5.out HB.out x7_4 pr1 qr1
                  obtain rfl : adv1 = adr1 := (by injection er1)
                  replace pr1 := eq_true pr1
                  replace qr1 := eq_true qr1
                  go_wp2
                  go_roundg k4
                  case measure => have := HKy1.out; have := HKw1.out; have := HJu1.out; have := HKs1.out; omega
                  case rel => exact ⟨(wrap64 (x7_4 + 1)), rS, H', ⟨by have := HKy1.out; have := HKw1.out; have := HJu1.out; have := HKs1.out; omega⟩, ⟨(bX BKz1.out)⟩, ⟨(hX HB.out)⟩⟩
mutual
def spec_ThreadOk.j0 : Nat → Int → Bool → List (S69) → Int → Bool → List (S172) → List (S174) → Option (Bool)
  | 0, _, _, _, _, _, _, _ => none
  | k + 1, x1, x60, x102000, x102001, x102002, x102003, x102004 => if x60 = true then (some false) else (spec_ThreadOk.l0 k x1 0 x102000 x102001 x102002 x102003 x102004)
def spec_ThreadOk.l0 : Nat → Int → Int → List (S69) → Int → Bool → List (S172) → List (S174) → Option (Bool)
  | 0, _, _, _, _, _, _, _ => none
  | k + 1, x1, x5, x102000, x102001, x102002, x102003, x102004 => if x5 < (x102000.length : Int) then (if 0 ≤ x5 then ((spec_OpOk.f k ((rd_T69 x102000 x5).f0) ((rd_T69 x102000 x5).f1) ((rd_T69 x102000 x5).f2)).bind fun t104 => (if t104 = true then (spec_ThreadOk.l0 k x1 (wrap64 (x5 + 1)) x102000 x102001 x102002 x102003 x102004) else (some false))) else (none)) else (spec_ThreadOk.l1 k x1 0 x102000 x102001 x102002 x102003 x102004)
def spec_ThreadOk.l1 : Nat → Int → Int → List (S69) → Int → Bool → List (S172) → List (S174) → Option (Bool)
  | 0, _, _, _, _, _, _, _ => none
  | k + 1, x1, x6, x102000, x102001, x102002, x102003, x102004 => if x6 < (x102003.length : Int) then (if 0 ≤ x6 then ((spec_l1In.f ((rd_T172 x102003 x6).f0) 0 19).bind fun t106 => (if t106 = true then ((spec_l1In.f ((rd_T172 x102003 x6).f1) 0 1000).bind fun t108 => (if t108 = true then (spec_ThreadOk.l1 k x1 (wrap64 (x6 + 1)) x102000 x102001 x102002 x102003 x102004) else (some false))) else (some false))) else (none)) else (spec_ThreadOk.l2 k x1 0 x102000 x102001 x102002 x102003 x102004)
def spec_ThreadOk.l2 : Nat → Int → Int → List (S69) → Int → Bool → List (S172) → List (S174) → Option (Bool)
  | 0, _, _, _, _, _, _, _ => none
  | k + 1, x1, x7, x102000, x102001, x102002, x102003, x102004 => if x7 < (x102004.length : Int) then (if 0 ≤ x7 then (if ((rd_T174 x102004 x7).f0) < 0 then (some false) else (if ((rd_T174 x102004 x7).f0) ≥ x1 then (some false) else ((spec_l1In.f ((rd_T174 x102004 x7).f1) 1 1000000).bind fun t111 => (if t111 = true then ((spec_l1In.f ((rd_T174 x102004 x7).f2) 0 20).bind fun t112 => (if t112 = true then ((spec_l1In.f ((rd_T174 x102004 x7).f3) 0 20).bind fun t113 => (if t113 = true then (spec_ThreadOk.l2 k x1 (wrap64 (x7 + 1)) x102000 x102001 x102002 x102003 x102004) else (some false))) else (some false))) else (some false))))) else (none)) else (some true)
end
def spec_ThreadOk.f (k : Nat) (l0_0 : List (S69)) (a0_1 : Int) (a0_2 : Bool) (l0_3 : List (S172)) (l0_4 : List (S174)) (a1 : Int) : Option (Bool) := if (l0_0.length : Int) > 8 then (spec_ThreadOk.j0 k a1 true l0_0 a0_1 a0_2 l0_3 l0_4) else ((spec_l1In.f a0_1 0 (l0_0.length : Int)).bind fun t102 => (if t102 = true then (if a0_2 = true then (if a0_1 ≥ (l0_0.length : Int) then (spec_ThreadOk.j0 k a1 true l0_0 a0_1 a0_2 l0_3 l0_4) else (if (l0_3.length : Int) > 12 then (spec_ThreadOk.j0 k a1 true l0_0 a0_1 a0_2 l0_3 l0_4) else (spec_ThreadOk.j0 k a1 (decide ((l0_4.length : Int) > 2)) l0_0 a0_1 a0_2 l0_3 l0_4))) else (if (wrap64 ((l0_3.length : Int) + (l0_4.length : Int))) > 0 then (spec_ThreadOk.j0 k a1 true l0_0 a0_1 a0_2 l0_3 l0_4) else (if (l0_3.length : Int) > 12 then (spec_ThreadOk.j0 k a1 true l0_0 a0_1 a0_2 l0_3 l0_4) else (spec_ThreadOk.j0 k a1 (decide ((l0_4.length : Int) > 2)) l0_0 a0_1 a0_2 l0_3 l0_4)))) else (spec_ThreadOk.j0 k a1 true l0_0 a0_1 a0_2 l0_3 l0_4)))
set_option maxHeartbeats 8000000 in
set_option maxRecDepth 100000 in
theorem spec_ThreadOk.calls (k : Nat) (A0_0 : Option Addr) (c0_0 : Nat) (l0_0 : List (S69)) (a0_1 : Int) (a0_2 : Bool) (A0_3 : Option Addr) (c0_3 : Nat) (l0_3 : List (S172)) (A0_4 : Option Addr) (c0_4 : Nat) (l0_4 : List (S174)) (a1 : Int) (r : Bool) (w : World) (hr0_0 : Kd.C k69 w A0_0 l0_0.length l0_0) (hc0_0 : l0_0.length ≤ c0_0) (hr0_3 : Kd.C k172 w A0_3 l0_3.length l0_3) (hc0_3 : l0_3.length ≤ c0_3) (hr0_4 : Kd.C k174 w A0_4 l0_4.length l0_4) (hc0_4 : l0_4.length ≤ c0_4) (h : spec_ThreadOk.f k l0_0 a0_1 a0_2 l0_3 l0_4 a1 = some r) :
    Calls Tryz.prog 95 #[.agg #[.slice A0_0 l0_0.length c0_0, .int .i64 a0_1, .bool a0_2, .slice A0_3 l0_3.length c0_3, .slice A0_4 l0_4.length c0_4], .int .i64 a1] w fun e w' => e = .returned (.bool r) ∧ Below w.heap.size w w' := by
  have hu97 := Tryz.underlying97
  have hu69 := Tryz.underlying69
  have hu174 := Tryz.underlying174
  have HR0_0 := aM hr0_0
  have HC0_0 := aM hc0_0
  clear hr0_0 hc0_0
  have HR0_3 := aM hr0_3
  have HC0_3 := aM hc0_3
  clear hr0_3 hc0_3
  have HR0_4 := aM hr0_4
  have HC0_4 := aM hc0_4
  clear hr0_4 hc0_4
  have HB := aM (Below.refl w.heap.size w)
  have H := h
  unfold spec_ThreadOk.f at H
  clear h
  have HC3 := aM H
  clear H
  go_enter Tryz.func95, Tryz.ntmps95
  go_upto_region 1 with (first | ((with_reducible refine gate_dst (N := 2) rfl ?_); (try (refine gate_guard (by rfl) ?_; dsimp only)); refine boxF 2 #[.slice A0_0 l0_0.length c0_0, .int .i64 a0_1, .bool a0_2, .slice A0_3 l0_3.length c0_3, .slice A0_4 l0_4.length c0_4] 97 ?_; intro gbz1 hg wz1 hbox hb; have BKz1 := aM (hbox); have GWz1 := aG hg HB; have GEz1 := aG hg HB; replace HB := aS HB hb; clear hb hbox hg))
  (try simp only [Act.put, List.setIfInBounds_toArray, List.set_cons_zero, List.set_cons_succ])
  go_cut [60] (fun vz1 wc => ∃ (kq : Nat) (x60_2 : Bool), vz1 = .bool x60_2 ∧ Aside0 (spec_ThreadOk.j0 kq a1 x60_2 l0_0 a0_1 a0_2 l0_3 l0_4 = some r) ∧ Aside0 (kq ≤ k) ∧ Aside0 (wc.heap[gbz1]? = some (.cells #[(.slice A0_0 l0_0.length c0_0), .int .i64 a0_1, .bool a0_2, (.slice A0_3 l0_3.length c0_3), (.slice A0_4 l0_4.length c0_4)] 97 (0, 0))) ∧ Aside0 (Below w.heap.size w wc))
  case first =>
    have H := HC3.out
    clear HC3
    by_cases c5 : (l0_0.length : Int) > 8
    · rw [if_pos c5] at H
      have c5b0 := decide_eq_true c5
      have c5b1 : decide (8 < l0_0.length) = true := decide_eq_true (by omega)
      clear c5
      (first | rw [c5b0] | (simp only [i64_w, i32_w]; rw [c5b0]) | skip)
      have H' := aM H
      clear H
      obtain ⟨hczy1, hczy2, hczy3, hczy4, hczy5, hfzy1, hfzy2, hfzy3, hfzy4, hfzy5⟩ := cZ5 BKz1.out
      go_wp2
      go_meet
      case rel => exact ⟨_, (true), rS, H', ⟨by first | omega | exact Nat.le_refl _⟩, ⟨(bX BKz1.out)⟩, ⟨(hX HB.out)⟩⟩
    rw [if_neg c5] at H
    have c5b0 := decide_eq_false c5
    have c5b1 : decide (8 < l0_0.length) = false := decide_eq_false (by omega)
    clear c5
    (first | rw [c5b0] | (simp only [i64_w, i32_w]; rw [c5b0]) | skip)
    replace H := bE H; obtain ⟨t102, A7, H⟩ := H
    by_cases c8 : t102 = true
    case neg =>
      replace c8 := Bool.eq_false_iff.mpr c8
      subst c8
      rw [if_neg nft] at H
      have H' := aM H
      clear H
      obtain ⟨hczy1, hczy2, hczy3, hczy4, hczy5, hfzy1, hfzy2, hfzy3, hfzy4, hfzy5⟩ := cZ5 BKz1.out
      go_wp2_with (first | (go_at_call 43; (with_reducible refine (spec_l1In.calls _ _ _ _ _ A7.out).mono ?_); rintro e w' ⟨rfl, ⟨nd, rfl⟩⟩))
      go_meet
      case rel => exact ⟨_, (true), rS, H', ⟨by first | omega | exact Nat.le_refl _⟩, ⟨(bX BKz1.out)⟩, ⟨(hX HB.out)⟩⟩
    subst c8
    rw [if_pos rfl] at H
    obtain ⟨hczy1, hczy2, hczy3, hczy4, hczy5, hfzy1, hfzy2, hfzy3, hfzy4, hfzy5⟩ := cZ5 BKz1.out
    go_wp2_with (first | (go_at_call 43; (with_reducible refine (spec_l1In.calls _ _ _ _ _ A7.out).mono ?_); rintro e w' ⟨rfl, ⟨nd, rfl⟩⟩; refine Stop.out ?_))
    refine ⟨?_⟩
    by_cases c9 : a0_2 = true
    · subst c9
      rw [if_pos rfl] at H
      by_cases c10 : a0_1 ≥ (l0_0.length : Int)
      · rw [if_pos c10] at H
        have c10b0 := decide_eq_true c10
        clear c10
        have H' := aM H
        clear H
        go_wp2
        go_meet
        case rel => exact ⟨_, (true), rS, H', ⟨by first | omega | exact Nat.le_refl _⟩, ⟨(bX BKz1.out)⟩, ⟨(hX HB.out)⟩⟩
      rw [if_neg c10] at H
      have c10b0 := decide_eq_false c10
      clear c10
      by_cases c12 : (l0_3.length : Int) > 12
      · rw [if_pos c12] at H
        have c12b0 := decide_eq_true c12
        have c12b1 : decide (12 < l0_3.length) = true := decide_eq_true (by omega)
        clear c12
        have H' := aM H
        clear H
        go_wp2
        go_meet
        case rel => exact ⟨_, (true), rS, H', ⟨by first | omega | exact Nat.le_refl _⟩, ⟨(bX BKz1.out)⟩, ⟨(hX HB.out)⟩⟩
      rw [if_neg c12] at H
      have c12b0 := decide_eq_false c12
      have c12b1 : decide (12 < l0_3.length) = false := decide_eq_false (by omega)
      clear c12
      have H' := aM H
      clear H
      go_wp2
      go_meet
      case rel => exact ⟨_, (decide ((l0_4.length : Int) > 2)), rS, H', ⟨by first | omega | exact Nat.le_refl _⟩, ⟨(bX BKz1.out)⟩, ⟨(hX HB.out)⟩⟩
    replace c9 := Bool.eq_false_iff.mpr c9
    subst c9
    rw [if_neg nft] at H
    by_cases c15 : (wrap64 ((l0_3.length : Int) + (l0_4.length : Int))) > 0
    · rw [if_pos c15] at H
      have c15b0 := decide_eq_true c15
      clear c15
      have H' := aM H
      clear H
      go_wp2
      go_meet
      case rel => exact ⟨_, (true), rS, H', ⟨by first | omega | exact Nat.le_refl _⟩, ⟨(bX BKz1.out)⟩, ⟨(hX HB.out)⟩⟩
    rw [if_neg c15] at H
    have c15b0 := decide_eq_false c15
    clear c15
    by_cases c17 : (l0_3.length : Int) > 12
    · rw [if_pos c17] at H
      have c17b0 := decide_eq_true c17
      have c17b1 : decide (12 < l0_3.length) = true := decide_eq_true (by omega)
      clear c17
      have H' := aM H
      clear H
      go_wp2
      go_meet
      case rel => exact ⟨_, (true), rS, H', ⟨by first | omega | exact Nat.le_refl _⟩, ⟨(bX BKz1.out)⟩, ⟨(hX HB.out)⟩⟩
    rw [if_neg c17] at H
    have c17b0 := decide_eq_false c17
    have c17b1 : decide (12 < l0_3.length) = false := decide_eq_false (by omega)
    clear c17
    have H' := aM H
    clear H
    go_wp2
    go_meet
    case rel => exact ⟨_, (decide ((l0_4.length : Int) > 2)), rS, H', ⟨by first | omega | exact Nat.le_refl _⟩, ⟨(bX BKz1.out)⟩, ⟨(hX HB.out)⟩⟩
  case rest =>
    clear HC3
    try clear p2
    try clear p6
    obtain ⟨kq, x60_2, rfl, HA, HJy1, BKz1, HB⟩ := hcut
    cases kq with
    | zero => exact absurd HA.out (by simp [spec_ThreadOk.j0])
    | succ kj2 =>
      have H := HA.out
      clear HA
      simp only [spec_ThreadOk.j0] at H
      by_cases c21 : x60_2 = true
      · subst c21
        rw [if_pos rfl] at H
        obtain rfl := sI H
        go_wp2
        go_ret
        exact ⟨rE, (hX HB.out)⟩
      replace c21 := Bool.eq_false_iff.mpr c21
      subst c21
      rw [if_neg nft] at H
      have H' := aM H
      clear H
      go_wp2
      go_loopg [5] kj2 (fun kq v5 w' => ∃ (x5_2 : Int), v5 = .int .i64 x5_2 ∧ Aside0 (spec_ThreadOk.l0 kq a1 x5_2 l0_0 a0_1 a0_2 l0_3 l0_4 = some r) ∧ Aside0 (kq ≤ kj2) ∧ Aside0 (w'.heap[gbz1]? = some (.cells #[(.slice A0_0 l0_0.length c0_0), .int .i64 a0_1, .bool a0_2, (.slice A0_3 l0_3.length c0_3), (.slice A0_4 l0_4.length c0_4)] 97 (0, 0))) ∧ Aside0 (Below w.heap.size w w'))
      case atStart => exact ⟨(0), rS, H', ⟨Nat.le_refl _⟩, ⟨(bX BKz1.out)⟩, ⟨(hX HB.out)⟩⟩
      case round =>
        clear H'
        try clear p2
        try clear p6
        try clear c21
        obtain ⟨x5_2, rfl, HA, HKw1, BKz1, HB⟩ := hrel
        cases gk with
        | zero => exact absurd HA.out (by simp [spec_ThreadOk.l0])
        | succ k2 =>
          have H := HA.out
          clear HA
          simp only [spec_ThreadOk.l0] at H
          by_cases c22 : x5_2 < (l0_0.length : Int)
          · rw [if_pos c22] at H
            have c22b0 := decide_eq_true c22
            clear c22
            replace H := ifP H; obtain ⟨c23, H⟩ := H
            have c23b0 := decide_eq_true c23
            clear c23
            replace H := bE H; obtain ⟨t104, A24, H⟩ := H
            by_cases c25 : t104 = true
            case neg =>
              replace c25 := Bool.eq_false_iff.mpr c25
              subst c25
              rw [if_neg nft] at H
              obtain rfl := sI H
              obtain ⟨hczv1, hczv2, hczv3, hczv4, hczv5, hfzv1, hfzv2, hfzv3, hfzv4, hfzv5⟩ := cZ5 BKz1.out
              have pv1 : 0 ≤ (x5_2 : Int) := odA
              have qv1 : x5_2 < (l0_0.length : Int) := odA
              obtain ⟨adv1, ev1, hxv1, hxv2, hxv3⟩ := at_T69b HR0_0.out HB.out x5_2 pv1 qv1
              cases ev1
              replace pv1 := eq_true pv1
              replace qv1 := eq_true qv1
              go_wp2_with (first | (refine goesM 138 73 Tryz.func138 #[.agg #[.int .i64 ((rd_T69 l0_0 x5_2).f0), .int .i64 ((rd_T69 l0_0 x5_2).f1), .int .i64 ((rd_T69 l0_0 x5_2).f2)]] ?_; refine (spec_OpOk.calls _ _ _ _ _ _ A24.out).mono ?_; rintro e wv1 ⟨rfl, hb⟩; refine ⟨_, rfl, ?_⟩; replace BKz1 := aB BKz1 hb; replace HB := aS HB hb; clear hb))
              go_ret
              exact ⟨rE, (hX HB.out)⟩
            subst c25
            rw [if_pos rfl] at H
            have H' := aM H
            clear H
            obtain ⟨hczv1, hczv2, hczv3, hczv4, hczv5, hfzv1, hfzv2, hfzv3, hfzv4, hfzv5⟩ := cZ5 BKz1.out
            have pv1 : 0 ≤ (x5_2 : Int) := odA
            have qv1 : x5_2 < (l0_0.length : Int) := odA
            obtain ⟨adv1, ev1, hxv1, hxv2, hxv3⟩ := at_T69b HR0_0.out HB.out x5_2 pv1 qv1
            cases ev1
            replace pv1 := eq_true pv1
            replace qv1 := eq_true qv1
            go_wp2_with (first | (refine goesM 138 73 Tryz.func138 #[.agg #[.int .i64 ((rd_T69 l0_0 x5_2).f0), .int .i64 ((rd_T69 l0_0 x5_2).f1), .int .i64 ((rd_T69 l0_0 x5_2).f2)]] ?_; refine (spec_OpOk.calls _ _ _ _ _ _ A24.out).mono ?_; rintro e wv1 ⟨rfl, hb⟩; refine ⟨_, rfl, ?_⟩; replace BKz1 := aB BKz1 hb; replace HB := aS HB hb; clear hb))
            go_roundg k2
            case measure => have := HJy1.out; have := HKw1.out; omega
            case rel => exact ⟨(wrap64 (x5_2 + 1)), rS, H', ⟨by have := HJy1.out; have := HKw1.out; omega⟩, ⟨(bX BKz1.out)⟩, ⟨(hX HB.out)⟩⟩
          rw [if_neg c22] at H
          have c22b0 := decide_eq_false c22
          clear c22
          have H' := aM H
          clear H
          obtain ⟨hczv1, hczv2, hczv3, hczv4, hczv5, hfzv1, hfzv2, hfzv3, hfzv4, hfzv5⟩ := cZ5 BKz1.out
          go_wp2
          go_loopg [6] k2 (fun kq v6 w' => ∃ (x6_3 : Int), v6 = .int .i64 x6_3 ∧ Aside0 (spec_ThreadOk.l1 kq a1 x6_3 l0_0 a0_1 a0_2 l0_3 l0_4 = some r) ∧ Aside0 (kq ≤ k2) ∧ Aside0 (w'.heap[gbz1]? = some (.cells #[(.slice A0_0 l0_0.length c0_0), .int .i64 a0_1, .bool a0_2, (.slice A0_3 l0_3.length c0_3), (.slice A0_4 l0_4.length c0_4)] 97 (0, 0))) ∧ Aside0 (Below w.heap.size w w'))
          case atStart => exact ⟨(0), rS, H', ⟨Nat.le_refl _⟩, ⟨(bX BKz1.out)⟩, ⟨(hX HB.out)⟩⟩
          case round =>
            clear H'
            try clear p1
            try clear q1
            try clear hx1
            try clear p2
            try clear p6
            try clear p10
            try clear q10
            try clear hx10
            try clear c21
            try clear c22
            try clear c22b0
            try clear hczv1 hczv2 hczv3 hczv4 hczv5 hfzv1 hfzv2 hfzv3 hfzv4 hfzv5
            try clear hx103_0
            try clear hx103_1
            try clear hx103_2
            try clear p103
            try clear q103
            obtain ⟨x6_3, rfl, HA, HKu1, BKz1, HB⟩ := hrel
            cases gk with
            | zero => exact absurd HA.out (by simp [spec_ThreadOk.l1])
            | succ k3 =>
              have H := HA.out
              clear HA
              simp only [spec_ThreadOk.l1] at H
              by_cases c31 : x6_3 < (l0_3.length : Int)
              · rw [if_pos c31] at H
                have c31b0 := decide_eq_true c31
                clear c31
                replace H := ifP H; obtain ⟨c32, H⟩ := H
                have c32b0 := decide_eq_true c32
                clear c32
                replace H := bE H; obtain ⟨t106, A33, H⟩ := H
                by_cases c34 : t106 = true
                case neg =>
                  replace c34 := Bool.eq_false_iff.mpr c34
                  subst c34
                  rw [if_neg nft] at H
                  obtain rfl := sI H
                  obtain ⟨hczt1, hczt2, hczt3, hczt4, hczt5, hfzt1, hfzt2, hfzt3, hfzt4, hfzt5⟩ := cZ5 BKz1.out
                  have pt1 : 0 ≤ (x6_3 : Int) := odA
                  have qt1 : x6_3 < (l0_3.length : Int) := odA
                  obtain ⟨adt1, et1, hxt1, hxt2⟩ := at_T172b HR0_3.out HB.out x6_3 pt1 qt1
                  cases et1
                  replace pt1 := eq_true pt1
                  replace qt1 := eq_true qt1
                  go_wp2_with (first | (refine goesM 43 88 Tryz.func43 #[.int .i64 ((rd_T172 l0_3 x6_3).f0), .int .i64 0, .int .i64 19] ?_; refine (spec_l1In.calls _ _ _ _ _ A33.out).mono ?_; rintro e w' ⟨rfl, ⟨nd, rfl⟩⟩; refine ⟨_, rfl, ?_⟩))
                  go_ret
                  exact ⟨rE, (hX HB.out)⟩
                subst c34
                rw [if_pos rfl] at H
                replace H := bE H; obtain ⟨t108, A35, H⟩ := H
                obtain ⟨hczt1, hczt2, hczt3, hczt4, hczt5, hfzt1, hfzt2, hfzt3, hfzt4, hfzt5⟩ := cZ5 BKz1.out
                have pt1 : 0 ≤ (x6_3 : Int) := odA
                have qt1 : x6_3 < (l0_3.length : Int) := odA
                obtain ⟨adt1, et1, hxt1, hxt2⟩ := at_T172b HR0_3.out HB.out x6_3 pt1 qt1
                cases et1
                replace pt1 := eq_true pt1
                replace qt1 := eq_true qt1
                go_wp2_with (first | (refine goesM 43 88 Tryz.func43 #[.int .i64 ((rd_T172 l0_3 x6_3).f0), .int .i64 0, .int .i64 19] ?_; refine (spec_l1In.calls _ _ _ _ _ A33.out).mono ?_; rintro e w' ⟨rfl, ⟨nd, rfl⟩⟩; refine ⟨_, rfl, ?_⟩; have pt2 : 0 ≤ (x6_3 : Int) := odA; have qt2 : x6_3 < (l0_3.length : Int) := odA; obtain ⟨adt2, et2, hxt3, hxt4⟩ := at_T172 HR0_3.out x6_3 pt2 qt2; obtain rfl : adt1 = adt2 := (by injection et2); replace hxt3 := bc HB.out hxt3; replace hxt4 := bc HB.out hxt4; replace pt2 := eq_true pt2; replace qt2 := eq_true qt2; refine Stop.out ?_))
                refine ⟨?_⟩
                by_cases c36 : t108 = true
                case neg =>
                  replace c36 := Bool.eq_false_iff.mpr c36
                  subst c36
                  rw [if_neg nft] at H
                  obtain rfl := sI H
                  go_wp2_with (first | (go_at_call 43; (with_reducible refine (spec_l1In.calls _ _ _ _ _ A35.out).mono ?_); rintro e w' ⟨rfl, ⟨nd, rfl⟩⟩))
                  go_ret
                  exact ⟨rE, (hX HB.out)⟩
                subst c36
                rw [if_pos rfl] at H
                have H' := aM H
                clear H
                go_wp2_with (first | (go_at_call 43; (with_reducible refine (spec_l1In.calls _ _ _ _ _ A35.out).mono ?_); rintro e w' ⟨rfl, ⟨nd, rfl⟩⟩))
                go_roundg k3
                case measure => have := HJy1.out; have := HKw1.out; have := HKu1.out; omega
                case rel => exact ⟨(wrap64 (x6_3 + 1)), rS, H', ⟨by have := HJy1.out; have := HKw1.out; have := HKu1.out; omega⟩, ⟨(bX BKz1.out)⟩, ⟨(hX HB.out)⟩⟩
              rw [if_neg c31] at H
              have c31b0 := decide_eq_false c31
              clear c31
              have H' := aM H
              clear H
              obtain ⟨hczt1, hczt2, hczt3, hczt4, hczt5, hfzt1, hfzt2, hfzt3, hfzt4, hfzt5⟩ := cZ5 BKz1.out
              go_wp2
              go_loopg [7] k3 (fun kq v7 w' => ∃ (x7_4 : Int), v7 = .int .i64 x7_4 ∧ Aside0 (spec_ThreadOk.l2 kq a1 x7_4 l0_0 a0_1 a0_2 l0_3 l0_4 = some r) ∧ Aside0 (kq ≤ k3) ∧ Aside0 (w'.heap[gbz1]? = some (.cells #[(.slice A0_0 l0_0.length c0_0), .int .i64 a0_1, .bool a0_2, (.slice A0_3 l0_3.length c0_3), (.slice A0_4 l0_4.length c0_4)] 97 (0, 0))) ∧ Aside0 (Below w.heap.size w w'))
              case atStart => exact ⟨(0), rS, H', ⟨Nat.le_refl _⟩, ⟨(bX BKz1.out)⟩, ⟨(hX HB.out)⟩⟩
              case round =>
                clear H'
                try clear p1
                try clear q1
                try clear hx1
                try clear p2
                try clear p6
                try clear p10
                try clear q10
                try clear hx10
                try clear c21
                try clear c22
                try clear c22b0
                try clear c31
                try clear c31b0
                try clear hczv1 hczv2 hczv3 hczv4 hczv5 hfzv1 hfzv2 hfzv3 hfzv4 hfzv5
                try clear hczt1 hczt2 hczt3 hczt4 hczt5 hfzt1 hfzt2 hfzt3 hfzt4 hfzt5
                try clear hx103_0
                try clear hx103_1
                try clear hx103_2
                try clear hx105_0
                try clear hx105_1
                try clear hx107_0
                try clear hx107_1
                try clear p103
                try clear p105
                try clear p107
                try clear q103
                try clear q105
                try clear q107
                obtain ⟨x7_4, rfl, HA, HKs1, BKz1, HB⟩ := hrel
                cases gk with
                | zero => exact absurd HA.out (by simp [spec_ThreadOk.l2])
                | succ k4 =>
                  have H := HA.out
                  clear HA
                  simp only [spec_ThreadOk.l2] at H
                  by_cases c41 : x7_4 < (l0_4.length : Int)
                  case neg =>
                    rw [if_neg c41] at H
                    have c41b0 := decide_eq_false c41
                    clear c41
                    obtain rfl := sI H
                    obtain ⟨hczr1, hczr2, hczr3, hczr4, hczr5, hfzr1, hfzr2, hfzr3, hfzr4, hfzr5⟩ := cZ5 BKz1.out
                    go_wp2
                    go_ret
                    exact ⟨rE, (hX HB.out)⟩
                  rw [if_pos c41] at H
                  have c41b0 := decide_eq_true c41
                  clear c41
                  replace H := ifP H; obtain ⟨c42, H⟩ := H
                  have c42b0 := decide_eq_true c42
                  clear c42
                  obtain ⟨hczr1, hczr2, hczr3, hczr4, hczr5, hfzr1, hfzr2, hfzr3, hfzr4, hfzr5⟩ := cZ5 BKz1.out
                  have pr1 : 0 ≤ (x7_4 : Int) := odA
                  have qr1 : x7_4 < (l0_4.length : Int) := odA
                  obtain ⟨adr1, er1, hxr1, hxr2, hxr3, hxr4⟩ := at_T174b HR0_4.out HB.out x7_4 pr1 qr1
                  cases er1
                  replace pr1 := eq_true pr1
                  replace qr1 := eq_true qr1
                  go_wp2_with (first | ((with_reducible refine gate_dst (N := 8) rfl ?_); (try (refine gate_guard (by rfl) ?_; dsimp only)); refine boxF 8 #[.int .i64 0, .int .i64 0, .int .i64 0, .int .i64 0] 174 ?_; intro gbr1 hg wr1 hbox hb; have BKr1 := aM (hbox); have GWr1 := aG hg HB; have GEr1 := aG hg HB; have NBr1 := aL hg BKz1; have NBr2 := aR hg BKz1; replace BKz1 := aB BKz1 hb; replace HB := aS HB hb; clear hb hbox hg; have hnbr1 := NBr2.out; have hncr1 := NBr1.out; obtain ⟨hczr6, hczr7, hczr8, hczr9, hfzr6, hfzr7, hfzr8, hfzr9⟩ := cZ4 BKr1.out; refine Stop.out ?_))
                  refine ⟨?_⟩
                  by_cases c43 : ((rd_T174 l0_4 x7_4).f0) < 0
                  · rw [if_pos c43] at H
                    have c43b0 := decide_eq_true c43
                    clear c43
                    obtain rfl := sI H
                    go_wp2
                    go_ret
                    exact ⟨rE, (hX HB.out)⟩
                  rw [if_neg c43] at H
                  have c43b0 := decide_eq_false c43
                  clear c43
                  by_cases c48 : ((rd_T174 l0_4 x7_4).f0) ≥ a1
                  · rw [if_pos c48] at H
                    have c48b0 := decide_eq_true c48
                    clear c48
                    obtain rfl := sI H
                    go_wp2
                    go_ret
                    exact ⟨rE, (hX HB.out)⟩
                  rw [if_neg c48] at H
                  have c48b0 := decide_eq_false c48
                  clear c48
                  replace H := bE H; obtain ⟨t111, A53, H⟩ := H
                  by_cases c54 : t111 = true
                  case neg =>
                    replace c54 := Bool.eq_false_iff.mpr c54
                    subst c54
                    rw [if_neg nft] at H
                    obtain rfl := sI H
                    go_wp2_with (first | (go_at_call 43; (with_reducible refine (spec_l1In.calls _ _ _ _ _ A53.out).mono ?_); rintro e w' ⟨rfl, ⟨nd, rfl⟩⟩))
                    go_ret
                    exact ⟨rE, (hX HB.out)⟩
                  subst c54
                  rw [if_pos rfl] at H
                  replace H := bE H; obtain ⟨t112, A55, H⟩ := H
                  go_wp2_with (first | (go_at_call 43; (with_reducible refine (spec_l1In.calls _ _ _ _ _ A53.out).mono ?_); rintro e w' ⟨rfl, ⟨nd, rfl⟩⟩; refine Stop.out ?_))
                  refine ⟨?_⟩
                  by_cases c56 : t112 = true
                  case neg =>
                    replace c56 := Bool.eq_false_iff.mpr c56
                    subst c56
                    rw [if_neg nft] at H
                    obtain rfl := sI H
                    go_wp2_with (first | (go_at_call 43; (with_reducible refine (spec_l1In.calls _ _ _ _ _ A55.out).mono ?_); rintro e w' ⟨rfl, ⟨nd, rfl⟩⟩))
                    go_ret
                    exact ⟨rE, (hX HB.out)⟩
                  subst c56
                  rw [if_pos rfl] at H
                  replace H := bE H; obtain ⟨t113, A57, H⟩ := H
                  go_wp2_with (first | (go_at_call 43; (with_reducible refine (spec_l1In.calls _ _ _ _ _ A55.out).mono ?_); rintro e w' ⟨rfl, ⟨nd, rfl⟩⟩; refine Stop.out ?_))
                  refine ⟨?_⟩
                  by_cases c58 : t113 = true
                  case neg =>
                    replace c58 := Bool.eq_false_iff.mpr c58
                    subst c58
                    rw [if_neg nft] at H
                    obtain rfl := sI H
                    go_wp2_with (first | (go_at_call 43; (with_reducible refine (spec_l1In.calls _ _ _ _ _ A57.out).mono ?_); rintro e w' ⟨rfl, ⟨nd, rfl⟩⟩))
                    go_ret
                    exact ⟨rE, (hX HB.out)⟩
                  subst c58
                  rw [if_pos rfl] at H
                  have H' := aM H
                  clear H
                  go_wp2_with (first | (go_at_call 43; (with_reducible refine (spec_l1In.calls _ _ _ _ _ A57.out).mono ?_); rintro e w' ⟨rfl, ⟨nd, rfl⟩⟩))
                  go_roundg k4
                  case measure => have := HJy1.out; have := HKw1.out; have := HKu1.out; have := HKs1.out; omega
                  case rel => exact ⟨(wrap64 (x7_4 + 1)), rS, H', ⟨by have := HJy1.out; have := HKw1.out; have := HKu1.out; have := HKs1.out; omega⟩, ⟨(bF BKz1.out)⟩, ⟨(hX HB.out)⟩⟩
end Go.Proofs.YtmljebgideecjaaGreat.P2
namespace Go.Proofs.YtmljebgideecjaaGreat.P2
open Go.RowKit Go.Proofs.YtmljebgideecjaaGreatW.PrintWords Go.Proofs.YtmljebgideecjaaGreatW.PrintLast Go.Proofs.YtmljebgideecjaaGreatW.PrintMore
attribute [local go_sem] max2_int min2_int max_two min_two max_three min_three max_four min_four   -- for this text's walks alone
theorem eqA69 (d : Nat) (w : World) (x0 y0 : Int) (x1 y1 : Int) (x2 y2 : Int) :
    (Op.equalIn (d + 2) 69 (.agg #[.int .i64 x0, .int .i64 x1, .int .i64 x2]) (.agg #[.int .i64 y0, .int .i64 y1, .int .i64 y2])).run Tryz.prog w = .ok (x0 == y0 && (x1 == y1 && (x2 == y2))) w := by
  refine eqA_of Tryz.underlying69 (by kernel_rfl) ?_
  refine eqf_cons (by rfl) (by go_simp; rfl) (by go_simp; rfl) (by go_simp) ?_
  refine eqf_cons (by rfl) (by go_simp; rfl) (by go_simp; rfl) (by go_simp) ?_
  exact eqf_last (by rfl) (by go_simp; rfl) (by go_simp; rfl) (by go_simp)
end Go.Proofs.YtmljebgideecjaaGreat.P2
namespace Go.Proofs.YtmljebgideecjaaGreat.P2
open Go.Proofs.YtmljebgideecjaaGreatZ Go.RowKit Go.Proofs.YtmljebgideecjaaGreatW.PrintWords Go.Proofs.YtmljebgideecjaaGreatW.PrintLast Go.Proofs.YtmljebgideecjaaGreatW.PrintMore
attribute [local go_sem] max2_int min2_int max_two min_two max_three min_three max_four min_four   -- for this text's walks alone
def spec_l9Last.l0 : Nat → Int → Int → List (S140) → List (S162) → List (S97) → Int → List (S73) → List Int → List Int → Int → Option (Int)
  | 0, _, _, _, _, _, _, _, _, _, _ => none
  | k + 1, x1, x5, x102000, x102001, x102002, x102003, x102004, x102005, x102006, x102007 => if x5 ≥ 0 then (if 0 ≤ x5 then (if x5 < (x102004.length : Int) then (if ((rd_T73 x102004 x5).f0) = x1 then (some x5) else (spec_l9Last.l0 k x1 (wrap64 (x5 - 1)) x102000 x102001 x102002 x102003 x102004 x102005 x102006 x102007)) else (none)) else (none)) else (some (-1))
def spec_l9Last.f (k : Nat) (l0_0 : List (S140)) (l0_1 : List (S162)) (l0_2 : List (S97)) (a0_3 : Int) (l0_4 : List (S73)) (l0_5 : List Int) (l0_6 : List Int) (a0_7 : Int) (a1 : Int) : Option (Int) := spec_l9Last.l0 k a1 (wrap64 ((l0_4.length : Int) - 1)) l0_0 l0_1 l0_2 a0_3 l0_4 l0_5 l0_6 a0_7
set_option maxHeartbeats 8000000 in
set_option maxRecDepth 100000 in
theorem spec_l9Last.calls (k : Nat) (A0_0 : Option Addr) (c0_0 : Nat) (l0_0 : List (S140)) (A0_1 : Option Addr) (c0_1 : Nat) (l0_1 : List (S162)) (A0_2 : Option Addr) (c0_2 : Nat) (l0_2 : List (S97)) (a0_3 : Int) (A0_4 : Option Addr) (c0_4 : Nat) (l0_4 : List (S73)) (A0_5 : Option Addr) (c0_5 : Nat) (l0_5 : List Int) (A0_6 : Option Addr) (c0_6 : Nat) (l0_6 : List Int) (a0_7 : Int) (a1 : Int) (r : Int) (w : World) (hr0_0 : Kd.C k140 w A0_0 l0_0.length l0_0) (hc0_0 : l0_0.length ≤ c0_0) (hr0_1 : Kd.C k162 w A0_1 l0_1.length l0_1) (hc0_1 : l0_1.length ≤ c0_1) (hr0_2 : Kd.C k97 w A0_2 l0_2.length l0_2) (hc0_2 : l0_2.length ≤ c0_2) (hr0_4 : Kd.C k73 w A0_4 l0_4.length l0_4) (hc0_4 : l0_4.length ≤ c0_4) (hr0_5 : Kd.C (Kd.int .i64) w A0_5 l0_5.length l0_5) (hc0_5 : l0_5.length ≤ c0_5) (hr0_6 : Kd.C (Kd.int .i64) w A0_6 l0_6.length l0_6) (hc0_6 : l0_6.length ≤ c0_6) (h : spec_l9Last.f k l0_0 l0_1 l0_2 a0_3 l0_4 l0_5 l0_6 a0_7 a1 = some r) :
    Calls Tryz.prog 163 #[.agg #[.slice A0_0 l0_0.length c0_0, .slice A0_1 l0_1.length c0_1, .slice A0_2 l0_2.length c0_2, .int .i64 a0_3, .slice A0_4 l0_4.length c0_4, .slice A0_5 l0_5.length c0_5, .slice A0_6 l0_6.length c0_6, .int .i64 a0_7], .int .i64 a1] w fun e w' => e = .returned (.int .i64 r) ∧ Below w.heap.size w w' := by
  have hu43 := Tryz.underlying43
  have HR0_0 := aM hr0_0
  have HC0_0 := aM hc0_0
  clear hr0_0 hc0_0
  have HR0_1 := aM hr0_1
  have HC0_1 := aM hc0_1
  clear hr0_1 hc0_1
  have HR0_2 := aM hr0_2
  have HC0_2 := aM hc0_2
  clear hr0_2 hc0_2
  have HR0_4 := aM hr0_4
  have HC0_4 := aM hc0_4
  clear hr0_4 hc0_4
  have HR0_5 := aM hr0_5
  have HC0_5 := aM hc0_5
  clear hr0_5 hc0_5
  have HR0_6 := aM hr0_6
  have HC0_6 := aM hc0_6
  clear hr0_6 hc0_6
  have HB := aM (Below.refl w.heap.size w)
  have H := h
  unfold spec_l9Last.f at H
  clear h
  have H' := aM H
  clear H
  go_enter Tryz.func163, Tryz.ntmps163
  go_wp2_with (first | (refine boxE 2 #[.slice A0_0 l0_0.length c0_0, .slice A0_1 l0_1.length c0_1, .slice A0_2 l0_2.length c0_2, .int .i64 a0_3, .slice A0_4 l0_4.length c0_4, .slice A0_5 l0_5.length c0_5, .slice A0_6 l0_6.length c0_6, .int .i64 a0_7] 43 ?_; intro gbz1 hg wz1 hbox hb; have BKz1 := aM (hbox); have GWz1 := aG hg HB; have GEz1 := aG hg HB; replace HB := aS HB hb; clear hb hbox hg; obtain ⟨hczz1, hczz2, hczz3, hczz4, hczz5, hczz6, hczz7, hczz8, hfzz1, hfzz2, hfzz3, hfzz4, hfzz5, hfzz6, hfzz7, hfzz8⟩ := cZ8 BKz1.out))
  go_loopg [5] k (fun kq v5 w' => ∃ (x5_1 : Int), v5 = .int .i64 x5_1 ∧ Aside0 (spec_l9Last.l0 kq a1 x5_1 l0_0 l0_1 l0_2 a0_3 l0_4 l0_5 l0_6 a0_7 = some r) ∧ Aside0 (kq ≤ k) ∧ Aside0 (w'.heap[gbz1]? = some (.cells #[(.slice A0_0 l0_0.length c0_0), (.slice A0_1 l0_1.length c0_1), (.slice A0_2 l0_2.length c0_2), .int .i64 a0_3, (.slice A0_4 l0_4.length c0_4), (.slice A0_5 l0_5.length c0_5), (.slice A0_6 l0_6.length c0_6), .int .i64 a0_7] 43 (0, 0))) ∧ Aside0 (Below w.heap.size w w'))
  case atStart => exact ⟨(wrap64 ((l0_4.length : Int) - 1)), rS, H', ⟨Nat.le_refl _⟩, ⟨(bX BKz1.out)⟩, ⟨(hX HB.out)⟩⟩
  case round =>
    clear H'
    try clear p2
    try clear hczz1 hczz2 hczz3 hczz4 hczz5 hczz6 hczz7 hczz8 hfzz1 hfzz2 hfzz3 hfzz4 hfzz5 hfzz6 hfzz7 hfzz8
    obtain ⟨x5_1, rfl, HA, HKy1, BKz1, HB⟩ := hrel
    cases gk with
    | zero => exact absurd HA.out (by simp [spec_l9Last.l0])
    | succ k1 =>
      have H := HA.out
      clear HA
      simp only [spec_l9Last.l0] at H
      by_cases c5 : x5_1 ≥ 0
      case neg =>
        rw [if_neg c5] at H
        have c5b0 := decide_eq_false c5
        clear c5
        obtain rfl := sI H
        go_wp2
        go_ret
        exact ⟨rE, (hX HB.out)⟩
      rw [if_pos c5] at H
      have c5b0 := decide_eq_true c5
      clear c5
      replace H := ifP H; obtain ⟨c6, H⟩ := H
      have c6b0 := decide_eq_true c6
      clear c6
      replace H := ifP H; obtain ⟨c7, H⟩ := H
      have c7b0 := decide_eq_true c7
      clear c7
      by_cases c8 : ((rd_T73 l0_4 x5_1).f0) = a1
      · rw [if_pos c8] at H
        obtain ⟨c8b0, c8b1⟩ := eqT c8
        clear c8
        obtain rfl := sI H
        obtain ⟨hczx1, hczx2, hczx3, hczx4, hczx5, hczx6, hczx7, hczx8, hfzx1, hfzx2, hfzx3, hfzx4, hfzx5, hfzx6, hfzx7, hfzx8⟩ := cZ8 BKz1.out
        have px1 : 0 ≤ (x5_1 : Int) := odA
        have qx1 : x5_1 < (l0_4.length : Int) := odA
        obtain ⟨adx1, Ax1, cx1, ex1, hxx1, hxx2, hxx3, hxx4, hxx5, hxx6, hxx7, hxx8, hxx9, hlx1, hix1⟩ := at_T73b HR0_4.out HB.out x5_1 px1 qx1
        cases ex1
        have HRx1 := aM hix1
        have HCx1 := aM hlx1
        clear hix1 hlx1
        replace px1 := eq_true px1
        replace qx1 := eq_true qx1
        go_wp2
        go_ret
        exact ⟨rE, (hX HB.out)⟩
      rw [if_neg c8] at H
      obtain ⟨c8b0, c8b1⟩ := eqF c8
      have H' := aM H
      clear H
      obtain ⟨hczx1, hczx2, hczx3, hczx4, hczx5, hczx6, hczx7, hczx8, hfzx1, hfzx2, hfzx3, hfzx4, hfzx5, hfzx6, hfzx7, hfzx8⟩ := cZ8 BKz1.out
      have px1 : 0 ≤ (x5_1 : Int) := odA
      have qx1 : x5_1 < (l0_4.length : Int) := odA
      obtain ⟨adx1, Ax1, cx1, ex1, hxx1, hxx2, hxx3, hxx4, hxx5, hxx6, hxx7, hxx8, hxx9, hlx1, hix1⟩ := at_T73b HR0_4.out HB.out x5_1 px1 qx1
      cases ex1
      have HRx1 := aM hix1
      have HCx1 := aM hlx1
      clear hix1 hlx1
      replace px1 := eq_true px1
      replace qx1 := eq_true qx1
      go_wp2
      go_roundg k1
      case measure => have := HKy1.out; omega
      case rel => exact ⟨(wrap64 (x5_1 - 1)), rS, H', ⟨by have := HKy1.out; omega⟩, ⟨(bX BKz1.out)⟩, ⟨(hX HB.out)⟩⟩
end Go.Proofs.YtmljebgideecjaaGreat.P2
