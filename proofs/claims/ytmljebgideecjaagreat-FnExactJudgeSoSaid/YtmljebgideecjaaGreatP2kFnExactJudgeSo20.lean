/- A part of the proof of the law FnExactJudgeSo: texts of this seat, merged (words, printed functions of the program, plain lemmas). Conditions: none of its own. -/
import Derived.Test.YtmljebgideecjaaGreatP2kFnExactJudgeSo1
import Derived.Test.YtmljebgideecjaaGreatP2kFnExactJudgeSo4
import Derived.Test.YtmljebgideecjaaGreatP2kFnExactJudgeSo5
import Derived.Test.YtmljebgideecjaaGreatP2kFnExactJudgeSo6
import Derived.Test.YtmljebgideecjaaGreatP2kFnExactJudgeSo19
set_option linter.unusedSimpArgs false
set_option linter.unusedVariables false
set_option maxHeartbeats 8000000
set_option maxRecDepth 100000
namespace Go.Proofs.YtmljebgideecjaaGreat.P2
open Go.Proofs.YtmljebgideecjaaGreatZ Go.RowKit Go.Proofs.YtmljebgideecjaaGreatW.PrintWords Go.Proofs.YtmljebgideecjaaGreatW.PrintLast Go.Proofs.YtmljebgideecjaaGreatW.PrintMore
attribute [local go_sem] max2_int min2_int max_two min_two max_three min_three max_four min_four   -- for this text's walks alone
def impl_DescOk.l0 : Nat → List (S165) → Int → Int → Int → Int → List (S165) → Int → List Int → Option (Bool)
 | 0, _, _, _, _, _, _, _, _ => none
 | k + 1, x31, x32, x33, x102000, x102001, x102002, x102003, x102004 => if x33 < x32 then (if 0 ≤ x33 then (if x33 < (x31.length : Int) then ((impl_isPlace.f ((rd_T165 x31 x33).f0)).bind fun t106 => (if t106 = true then ((impl_isWordNum.f ((rd_T165 x31 x33).f1)).bind fun t107 => (if t107 = true then ((impl_isWordNum.f ((rd_T165 x31 x33).f2)).bind fun t108 => (if t108 = true then (if x33 > 0 then (if 0 ≤ (wrap64 (x33 - 1)) then (if (wrap64 (x33 - 1)) < (x102002.length : Int) then (if ((rd_T165 x102002 (wrap64 (x33 - 1))).f0) ≥ ((rd_T165 x31 x33).f0) then (some false) else (impl_DescOk.l0 k x31 x32 (wrap64 (x33 + 1)) x102000 x102001 x102002 x102003 x102004)) else (none)) else (none)) else (impl_DescOk.l0 k x31 x32 (wrap64 (x33 + 1)) x102000 x102001 x102002 x102003 x102004)) else (some false))) else (some false))) else (some false))) else (none)) else (none)) else ((impl_from.f x102000 1 1000000).bind fun t102 => (if t102 = true then ((impl_from.f x102001 1 3).bind fun t103 => (if t103 = true then (some (decide ((x102002.length : Int) ≤ 20))) else (some false))) else (some false)))
def impl_DescOk.f (k : Nat) (a0_0 : Int) (a0_1 : Int) (l0_2 : List (S165)) (a0_3 : Int) (l0_4 : List Int) : Option (Bool) := if a0_0 = 0 then (if a0_1 = 0 then (if (l0_2.length : Int) = 0 then (if a0_3 = 0 then (some ((l0_4.length : Int) == 0)) else (some false)) else (some false)) else (some false)) else (impl_DescOk.l0 k l0_2 (l0_2.length : Int) 0 a0_0 a0_1 l0_2 a0_3 l0_4)
def impl_DescOk.T6 : Bool × List (List Nat × List Nat) := (true, [([], []), ([0], [0]), ([1], [1]), ([2], [2]), ([3, 2], [3]), ([4], [4]), ([5, 4], [4, 5]), ([6, 4, 4], [4, 6]), ([7, 4], [4, 7]), ([4, 8], [4, 8]), ([9, 7], [9]), ([10], [10]), ([11, 10], [10, 11]), ([12, 10, 10], [10, 12]), ([13, 10], [10, 13]), ([10, 14], [10, 14]), ([15, 13], [15]), ([16], [16]), ([17, 16], [16, 17]), ([18, 16, 16], [16, 18]), ([19], [19]), ([20, 19], [19, 20]), ([19], [19]), ([22, 19], [19, 22]), ([21, 23, 19], [19, 21, 23]), ([24, 19], [19, 24]), ([25, 19], [19, 25]), ([19], [19]), ([27, 19], [19, 27]), ([26, 28, 19], [19, 26, 28]), ([19, 29, 16], [16, 19, 29]), ([16, 30], [16, 30])])
def impl_DescOk.B6 : List Nat := [0, 1, 3, 7, 15, 31, 63, 127, 255, 511, 1023, 2047, 4095, 8191, 16383, 32767, 65535, 131071, 262143, 524287, 1048575, 2097151, 1048575, 5242879, 16777215, 33554431, 67108863, 1048575, 135266303, 536870911, 1073741823, 2147483647]
theorem impl_DescOk.tab6 : rtab .any (opsOf Tryz.f171 6) = impl_DescOk.T6 := by kernel_rfl
theorem impl_DescOk.bits6 : waitsOk impl_DescOk.T6.2 impl_DescOk.B6 = true := by kernel_rfl
theorem impl_DescOk.calls (k : Nat) (a0_0 : Int) (a0_1 : Int) (A0_2 : Option Addr) (c0_2 : Nat) (l0_2 : List (S165)) (a0_3 : Int) (A0_4 : Option Addr) (c0_4 : Nat) (l0_4 : List Int) (r : Bool) (w : World) (hr0_2 : Kd.C k165 w A0_2 l0_2.length l0_2) (hc0_2 : l0_2.length ≤ c0_2) (hr0_4 : Kd.C (Kd.int .i64) w A0_4 l0_4.length l0_4) (hc0_4 : l0_4.length ≤ c0_4) (h : impl_DescOk.f k a0_0 a0_1 l0_2 a0_3 l0_4 = some r) :
  Calls Tryz.prog 171 #[.agg #[.int .i64 a0_0, .int .i64 a0_1, .slice A0_2 l0_2.length c0_2, .int .i64 a0_3, .slice A0_4 l0_4.length c0_4]] w fun e w' => e = .returned (.bool r) ∧ Below w.heap.size w w' := by
 have hu162 := Tryz.underlying162
 have hu165 := Tryz.underlying165
 have HR0_2 := aM hr0_2
 have HC0_2 := aM hc0_2
 clear hr0_2 hc0_2
 have HR0_4 := aM hr0_4
 have HC0_4 := aM hc0_4
 clear hr0_4 hc0_4
 have HB := aM (Below.refl w.heap.size w)
 have H := h
 unfold impl_DescOk.f at H
 clear h
 go_enter Tryz.func171, Tryz.ntmps171
 go_wp2_with ((with_reducible refine gate_dst (N := 1) rfl ?_); (try (refine gate_guard (by rfl) ?_; dsimp only)); refine boxF 1 #[.int .i64 a0_0, .int .i64 a0_1, .slice A0_2 l0_2.length c0_2, .int .i64 a0_3, .slice A0_4 l0_4.length c0_4] 162 ?_; intro gbz1 hg wz1 hbox hb; have BKz1 := aM (hbox); have GWz1 := aG hg HB; have GEz1 := aG hg HB; replace HB := aS HB hb; clear hb hbox hg; have hczz1 := cZ5 BKz1.out; refine Stop.out ?_)
 refine ⟨?_⟩
 revert H; refine eP (fun c2b0 c2b1 H => ?_) (fun c2b0 c2b1 H => ?_)
 ·revert H; refine eN (fun c3b0 c3b1 H => ?_) (fun c3b0 c3b1 H => ?_)
  ·obtain rfl := sI H
   exact fS
  by_cases c4 : (l0_2.length : Int) = 0
  case neg =>
   rw [if_neg c4] at H
   obtain ⟨c4b0, c4b1⟩ := eqF c4
   have c4b2 : ¬ (l0_2 = []) := fun h_ => c4 (by rw [h_]; rfl)
   exact fR
  rw [if_pos c4] at H
  obtain ⟨c4b0, c4b1⟩ := eqT c4
  clear c4
  revert H; refine eN (fun c5b0 c5b1 H => ?_) (fun c5b0 c5b1 H => ?_)
  ·obtain rfl := sI H
   exact fS
  exact fR
 have H' := aM H
 clear H
 go_wp2
 go_loopg [33] k (fun kq v33 w' => ∃ (x33_1 : Int), v33 = .int .i64 x33_1 ∧ Aside0 (impl_DescOk.l0 kq l0_2 (l0_2.length : Int) x33_1 a0_0 a0_1 l0_2 a0_3 l0_4 = some r) ∧ Aside0 (kq ≤ k) ∧ Aside0 (w'.heap[gbz1]? = some (.cells #[.int .i64 a0_0, .int .i64 a0_1, (.slice A0_2 l0_2.length c0_2), .int .i64 a0_3, (.slice A0_4 l0_4.length c0_4)] 162 (0, 0))) ∧ Aside0 (Below w.heap.size w w'))
 case atStart => exact ⟨(0), rS, H', ⟨Nat.le_refl _⟩, ⟨(bX BKz1.out)⟩, ⟨(hX HB.out)⟩⟩
 case round =>
  clear H'
  try clear c2b0
  try clear c2b1
  try clear hczz1
  obtain ⟨x33_1, rfl, HA, HKy1, BKz1, HB⟩ := hrel
  cases gk with
  | zero => exact absurd HA.out (by simp [impl_DescOk.l0])
  | succ k1 =>
   have H := HA.out
   clear HA
   simp only [impl_DescOk.l0] at H
   revert H; refine iN (fun c16b0 H => ?_) (fun c16b0 H => ?_)
   ·replace H := bE H; obtain ⟨t102, A60, H⟩ := H
    cases t102
    case false =>
     rw [if_neg nft] at H
     obtain rfl := sI H
     have hczx1 := cZ5 BKz1.out
     go_wp2_with (refine gD 102 73 Tryz.func102 (impl_from.calls _ _ _ _ _ A60.out) ?_; intro nd)
     go_ret
     exact ⟨rE, (hX HB.out)⟩
    rw [if_pos rfl] at H
    replace H := bE H; obtain ⟨t103, A62, H⟩ := H
    have hczx1 := cZ5 BKz1.out
    go_wp2_with (refine gD 102 73 Tryz.func102 (impl_from.calls _ _ _ _ _ A60.out) ?_; intro nd; refine Stop.out ?_)
    refine ⟨?_⟩
    cases t103
    case true =>
     rw [if_pos rfl] at H
     obtain rfl := sI H
     go_wp2_with (go_at_call 102; (with_reducible refine (impl_from.calls _ _ _ _ _ A62.out).mono ?_); rintro e w' ⟨rfl, ⟨nd, rfl⟩⟩)
     go_ret
     exact ⟨rE, (hX HB.out)⟩
    rw [if_neg nft] at H
    obtain rfl := sI H
    go_wp2_with (go_at_call 102; (with_reducible refine (impl_from.calls _ _ _ _ _ A62.out).mono ?_); rintro e w' ⟨rfl, ⟨nd, rfl⟩⟩)
    go_ret
    exact ⟨rE, (hX HB.out)⟩
   replace H := ifQ H; obtain ⟨c17b0, H⟩ := H
   replace H := ifQ H; obtain ⟨c18b0, H⟩ := H
   replace H := bE H; obtain ⟨t106, A19, H⟩ := H
   obtain ⟨adx1, ex1, px1, qx1, hxx1⟩ := at_T165c HR0_2 HB x33_1
   cases ex1
   go_wp2_with ((with_reducible refine gate_dst (N := 4) rfl ?_); (try (refine gate_guard (by rfl) ?_; dsimp only)); refine boxF 4 #[.int .i64 0, .int .i64 0, .int .i64 0] 165 ?_; intro gbx1 hg wx1 hbox hb; have BKx1 := aM (hbox); have GWx1 := aG hg HB; have GEx1 := aG hg HB; have NBx1 := aL hg BKz1; have NBx2 := aR hg BKz1; replace BKz1 := aB BKz1 hb; replace HB := aS HB hb; clear hb hbox hg; have hnbx1 := NBx2.out; have hncx1 := NBx1.out; have hczx1 := cZ3 BKx1.out; refine Stop.out ?_)
   refine ⟨?_⟩
   cases t106
   case false =>
    rw [if_neg nft] at H
    obtain rfl := sI H
    try go_wp2
    have nx1 : Aside0 ((((wx1.setCell ⟨gbx1, 0, none⟩ (.int .i64 ((rd_T165 l0_2 x33_1).f0))).setCell ⟨gbx1, 1, none⟩ (.int .i64 ((rd_T165 l0_2 x33_1).f1))).setCell ⟨gbx1, 2, none⟩ (.int .i64 ((rd_T165 l0_2 x33_1).f2))).heap[gbz1]? = some (.cells #[.int .i64 a0_0, .int .i64 a0_1, .slice (some adx1) l0_2.length c0_2, .int .i64 a0_3, .slice A0_4 l0_4.length c0_4] 162 (0, 0))) := ⟨(bF BKz1.out)⟩
    have nx2 : Aside0 ((((wx1.setCell ⟨gbx1, 0, none⟩ (.int .i64 ((rd_T165 l0_2 x33_1).f0))).setCell ⟨gbx1, 1, none⟩ (.int .i64 ((rd_T165 l0_2 x33_1).f1))).setCell ⟨gbx1, 2, none⟩ (.int .i64 ((rd_T165 l0_2 x33_1).f2))).heap[gbx1]? = some (.cells #[.int .i64 ((rd_T165 l0_2 x33_1).f0), .int .i64 ((rd_T165 l0_2 x33_1).f1), .int .i64 ((rd_T165 l0_2 x33_1).f2)] 165 (0, 0))) := ⟨(bP BKx1.out)⟩
    have nx3 : Aside0 (Below w.heap.size w (((wx1.setCell ⟨gbx1, 0, none⟩ (.int .i64 ((rd_T165 l0_2 x33_1).f0))).setCell ⟨gbx1, 1, none⟩ (.int .i64 ((rd_T165 l0_2 x33_1).f1))).setCell ⟨gbx1, 2, none⟩ (.int .i64 ((rd_T165 l0_2 x33_1).f2)))) := ⟨(hX HB.out)⟩
    (try clear BKz1)
    (try clear BKx1)
    (try clear HB)
    generalize (((wx1.setCell ⟨gbx1, 0, none⟩ (.int .i64 ((rd_T165 l0_2 x33_1).f0))).setCell ⟨gbx1, 1, none⟩ (.int .i64 ((rd_T165 l0_2 x33_1).f1))).setCell ⟨gbx1, 2, none⟩ (.int .i64 ((rd_T165 l0_2 x33_1).f2))) = wx2 at nx1 nx2 nx3 ⊢
    have BKz1 := nx1
    have BKx1 := nx2
    have HB := nx3
    clear nx1 nx2 nx3
    have hcb0_ := cV3 BKx1.out
    refine sR0 32 impl_DescOk.tab6 impl_DescOk.bits6 (fun HT_ HW_ hHeld => ?_)
    refine zA 0 ?_
    refine tA 1 ?_
    refine eD 2 Tryz.func182 (impl_isPlace.calls _ _ _ A19.out) (fun nd hHeld => ?_)
    refine zA 3 ?_
    refine zA 4 ?_
    refine uA 5 ?_
    refine uA 6 ?_
    refine uA 7 ?_
    refine uA 8 ?_
    refine zA 9 ?_
    refine zA 10 ?_
    refine uA 11 ?_
    refine uA 12 ?_
    refine uA 13 ?_
    refine uA 14 ?_
    refine zA 15 ?_
    refine zA 16 ?_
    refine uA 17 ?_
    refine uA 18 ?_
    refine uA 19 ?_
    refine uA 20 ?_
    refine uA 21 ?_
    refine uA 22 ?_
    refine uA 23 ?_
    refine uA 24 ?_
    refine uA 25 ?_
    refine uA 26 ?_
    refine uA 27 ?_
    refine uA 28 ?_
    refine uA 29 ?_
    refine uA 30 ?_
    refine zA 31 ?_
    refine dA ?_
    try go_wp2
    go_ret
    exact ⟨rE, (hX HB.out)⟩
   rw [if_pos rfl] at H
   replace H := bE H; obtain ⟨t107, A21, H⟩ := H
   cases t107
   case false =>
    rw [if_neg nft] at H
    obtain rfl := sI H
    try go_wp2
    have nx1 : Aside0 ((((wx1.setCell ⟨gbx1, 0, none⟩ (.int .i64 ((rd_T165 l0_2 x33_1).f0))).setCell ⟨gbx1, 1, none⟩ (.int .i64 ((rd_T165 l0_2 x33_1).f1))).setCell ⟨gbx1, 2, none⟩ (.int .i64 ((rd_T165 l0_2 x33_1).f2))).heap[gbz1]? = some (.cells #[.int .i64 a0_0, .int .i64 a0_1, .slice (some adx1) l0_2.length c0_2, .int .i64 a0_3, .slice A0_4 l0_4.length c0_4] 162 (0, 0))) := ⟨(bF BKz1.out)⟩
    have nx2 : Aside0 ((((wx1.setCell ⟨gbx1, 0, none⟩ (.int .i64 ((rd_T165 l0_2 x33_1).f0))).setCell ⟨gbx1, 1, none⟩ (.int .i64 ((rd_T165 l0_2 x33_1).f1))).setCell ⟨gbx1, 2, none⟩ (.int .i64 ((rd_T165 l0_2 x33_1).f2))).heap[gbx1]? = some (.cells #[.int .i64 ((rd_T165 l0_2 x33_1).f0), .int .i64 ((rd_T165 l0_2 x33_1).f1), .int .i64 ((rd_T165 l0_2 x33_1).f2)] 165 (0, 0))) := ⟨(bP BKx1.out)⟩
    have nx3 : Aside0 (Below w.heap.size w (((wx1.setCell ⟨gbx1, 0, none⟩ (.int .i64 ((rd_T165 l0_2 x33_1).f0))).setCell ⟨gbx1, 1, none⟩ (.int .i64 ((rd_T165 l0_2 x33_1).f1))).setCell ⟨gbx1, 2, none⟩ (.int .i64 ((rd_T165 l0_2 x33_1).f2)))) := ⟨(hX HB.out)⟩
    (try clear BKz1)
    (try clear BKx1)
    (try clear HB)
    generalize (((wx1.setCell ⟨gbx1, 0, none⟩ (.int .i64 ((rd_T165 l0_2 x33_1).f0))).setCell ⟨gbx1, 1, none⟩ (.int .i64 ((rd_T165 l0_2 x33_1).f1))).setCell ⟨gbx1, 2, none⟩ (.int .i64 ((rd_T165 l0_2 x33_1).f2))) = wx2 at nx1 nx2 nx3 ⊢
    have BKz1 := nx1
    have BKx1 := nx2
    have HB := nx3
    clear nx1 nx2 nx3
    have hcb0_ := cV3 BKx1.out
    refine sR0 32 impl_DescOk.tab6 impl_DescOk.bits6 (fun HT_ HW_ hHeld => ?_)
    refine zA 0 ?_
    refine tA 1 ?_
    refine eD 2 Tryz.func182 (impl_isPlace.calls _ _ _ A19.out) (fun nd hHeld => ?_)
    refine zA 3 ?_
    refine zA 4 ?_
    refine zA 5 ?_
    refine tA 6 ?_
    refine eD 7 Tryz.func183 (impl_isWordNum.calls _ _ _ A21.out) (fun nd hHeld => ?_)
    refine zA 8 ?_
    refine zA 9 ?_
    refine zA 10 ?_
    refine uA 11 ?_
    refine uA 12 ?_
    refine uA 13 ?_
    refine uA 14 ?_
    refine zA 15 ?_
    refine zA 16 ?_
    refine uA 17 ?_
    refine uA 18 ?_
    refine uA 19 ?_
    refine uA 20 ?_
    refine uA 21 ?_
    refine uA 22 ?_
    refine uA 23 ?_
    refine uA 24 ?_
    refine uA 25 ?_
    refine uA 26 ?_
    refine uA 27 ?_
    refine uA 28 ?_
    refine uA 29 ?_
    refine uA 30 ?_
    refine zA 31 ?_
    refine dA ?_
    try go_wp2
    go_ret
    exact ⟨rE, (hX HB.out)⟩
   rw [if_pos rfl] at H
   replace H := bE H; obtain ⟨t108, A23, H⟩ := H
   cases t108
   case false =>
    rw [if_neg nft] at H
    obtain rfl := sI H
    try go_wp2
    have nx1 : Aside0 ((((wx1.setCell ⟨gbx1, 0, none⟩ (.int .i64 ((rd_T165 l0_2 x33_1).f0))).setCell ⟨gbx1, 1, none⟩ (.int .i64 ((rd_T165 l0_2 x33_1).f1))).setCell ⟨gbx1, 2, none⟩ (.int .i64 ((rd_T165 l0_2 x33_1).f2))).heap[gbz1]? = some (.cells #[.int .i64 a0_0, .int .i64 a0_1, .slice (some adx1) l0_2.length c0_2, .int .i64 a0_3, .slice A0_4 l0_4.length c0_4] 162 (0, 0))) := ⟨(bF BKz1.out)⟩
    have nx2 : Aside0 ((((wx1.setCell ⟨gbx1, 0, none⟩ (.int .i64 ((rd_T165 l0_2 x33_1).f0))).setCell ⟨gbx1, 1, none⟩ (.int .i64 ((rd_T165 l0_2 x33_1).f1))).setCell ⟨gbx1, 2, none⟩ (.int .i64 ((rd_T165 l0_2 x33_1).f2))).heap[gbx1]? = some (.cells #[.int .i64 ((rd_T165 l0_2 x33_1).f0), .int .i64 ((rd_T165 l0_2 x33_1).f1), .int .i64 ((rd_T165 l0_2 x33_1).f2)] 165 (0, 0))) := ⟨(bP BKx1.out)⟩
    have nx3 : Aside0 (Below w.heap.size w (((wx1.setCell ⟨gbx1, 0, none⟩ (.int .i64 ((rd_T165 l0_2 x33_1).f0))).setCell ⟨gbx1, 1, none⟩ (.int .i64 ((rd_T165 l0_2 x33_1).f1))).setCell ⟨gbx1, 2, none⟩ (.int .i64 ((rd_T165 l0_2 x33_1).f2)))) := ⟨(hX HB.out)⟩
    (try clear BKz1)
    (try clear BKx1)
    (try clear HB)
    generalize (((wx1.setCell ⟨gbx1, 0, none⟩ (.int .i64 ((rd_T165 l0_2 x33_1).f0))).setCell ⟨gbx1, 1, none⟩ (.int .i64 ((rd_T165 l0_2 x33_1).f1))).setCell ⟨gbx1, 2, none⟩ (.int .i64 ((rd_T165 l0_2 x33_1).f2))) = wx2 at nx1 nx2 nx3 ⊢
    have BKz1 := nx1
    have BKx1 := nx2
    have HB := nx3
    clear nx1 nx2 nx3
    have hcb0_ := cV3 BKx1.out
    refine sR0 32 impl_DescOk.tab6 impl_DescOk.bits6 (fun HT_ HW_ hHeld => ?_)
    refine zA 0 ?_
    refine tA 1 ?_
    refine eD 2 Tryz.func182 (impl_isPlace.calls _ _ _ A19.out) (fun nd hHeld => ?_)
    refine zA 3 ?_
    refine zA 4 ?_
    refine zA 5 ?_
    refine tA 6 ?_
    refine eD 7 Tryz.func183 (impl_isWordNum.calls _ _ _ A21.out) (fun nd hHeld => ?_)
    refine zA 8 ?_
    refine zA 9 ?_
    refine zA 10 ?_
    refine zA 11 ?_
    refine tA 12 ?_
    refine eD 13 Tryz.func183 (impl_isWordNum.calls _ _ _ A23.out) (fun nd hHeld => ?_)
    refine zA 14 ?_
    refine zA 15 ?_
    refine zA 16 ?_
    refine uA 17 ?_
    refine uA 18 ?_
    refine uA 19 ?_
    refine uA 20 ?_
    refine uA 21 ?_
    refine uA 22 ?_
    refine uA 23 ?_
    refine uA 24 ?_
    refine uA 25 ?_
    refine uA 26 ?_
    refine uA 27 ?_
    refine uA 28 ?_
    refine uA 29 ?_
    refine uA 30 ?_
    refine zA 31 ?_
    refine dA ?_
    try go_wp2
    go_ret
    exact ⟨rE, (hX HB.out)⟩
   rw [if_pos rfl] at H
   revert H; refine iN (fun c25b0 H => ?_) (fun c25b0 H => ?_)
   ·have H' := aM H
    clear H
    try go_wp2
    have nx1 : Aside0 ((((wx1.setCell ⟨gbx1, 0, none⟩ (.int .i64 ((rd_T165 l0_2 x33_1).f0))).setCell ⟨gbx1, 1, none⟩ (.int .i64 ((rd_T165 l0_2 x33_1).f1))).setCell ⟨gbx1, 2, none⟩ (.int .i64 ((rd_T165 l0_2 x33_1).f2))).heap[gbz1]? = some (.cells #[.int .i64 a0_0, .int .i64 a0_1, .slice (some adx1) l0_2.length c0_2, .int .i64 a0_3, .slice A0_4 l0_4.length c0_4] 162 (0, 0))) := ⟨(bF BKz1.out)⟩
    have nx2 : Aside0 ((((wx1.setCell ⟨gbx1, 0, none⟩ (.int .i64 ((rd_T165 l0_2 x33_1).f0))).setCell ⟨gbx1, 1, none⟩ (.int .i64 ((rd_T165 l0_2 x33_1).f1))).setCell ⟨gbx1, 2, none⟩ (.int .i64 ((rd_T165 l0_2 x33_1).f2))).heap[gbx1]? = some (.cells #[.int .i64 ((rd_T165 l0_2 x33_1).f0), .int .i64 ((rd_T165 l0_2 x33_1).f1), .int .i64 ((rd_T165 l0_2 x33_1).f2)] 165 (0, 0))) := ⟨(bP BKx1.out)⟩
    have nx3 : Aside0 (Below w.heap.size w (((wx1.setCell ⟨gbx1, 0, none⟩ (.int .i64 ((rd_T165 l0_2 x33_1).f0))).setCell ⟨gbx1, 1, none⟩ (.int .i64 ((rd_T165 l0_2 x33_1).f1))).setCell ⟨gbx1, 2, none⟩ (.int .i64 ((rd_T165 l0_2 x33_1).f2)))) := ⟨(hX HB.out)⟩
    (try clear BKz1)
    (try clear BKx1)
    (try clear HB)
    generalize (((wx1.setCell ⟨gbx1, 0, none⟩ (.int .i64 ((rd_T165 l0_2 x33_1).f0))).setCell ⟨gbx1, 1, none⟩ (.int .i64 ((rd_T165 l0_2 x33_1).f1))).setCell ⟨gbx1, 2, none⟩ (.int .i64 ((rd_T165 l0_2 x33_1).f2))) = wx2 at nx1 nx2 nx3 ⊢
    have BKz1 := nx1
    have BKx1 := nx2
    have HB := nx3
    clear nx1 nx2 nx3
    have hcb0_ := cV3 BKx1.out
    refine sR0 32 impl_DescOk.tab6 impl_DescOk.bits6 (fun HT_ HW_ hHeld => ?_)
    refine zA 0 ?_
    refine tA 1 ?_
    refine eD 2 Tryz.func182 (impl_isPlace.calls _ _ _ A19.out) (fun nd hHeld => ?_)
    refine zA 3 ?_
    refine zA 4 ?_
    refine zA 5 ?_
    refine tA 6 ?_
    refine eD 7 Tryz.func183 (impl_isWordNum.calls _ _ _ A21.out) (fun nd hHeld => ?_)
    refine zA 8 ?_
    refine zA 9 ?_
    refine zA 10 ?_
    refine zA 11 ?_
    refine tA 12 ?_
    refine eD 13 Tryz.func183 (impl_isWordNum.calls _ _ _ A23.out) (fun nd hHeld => ?_)
    refine zA 14 ?_
    refine zA 15 ?_
    refine zA 16 ?_
    refine zA 17 ?_
    refine zA 18 ?_
    refine zA 19 ?_
    refine uA 20 ?_
    refine uA 21 ?_
    refine uA 22 ?_
    refine uA 23 ?_
    refine uA 24 ?_
    refine uA 25 ?_
    refine uA 26 ?_
    refine uA 27 ?_
    refine uA 28 ?_
    refine uA 29 ?_
    refine zA 30 ?_
    refine zA 31 ?_
    refine dA ?_
    try go_wp2
    go_roundg k1
    case measure => have := HKy1.out; omega
    case rel => exact ⟨(wrap64 (x33_1 + 1)), rS, H', ⟨by have := HKy1.out; omega⟩, ⟨(bX BKz1.out)⟩, ⟨(hX HB.out)⟩⟩
   obtain ⟨ji26, hji26⟩ : ∃ j_ : Int, (wrap64 (x33_1 - 1)) = j_ := ⟨_, rfl⟩
   replace H : (if 0 ≤ (ji26) then (if (ji26) < (l0_2.length : Int) then (if ((rd_T165 l0_2 (ji26)).f0) ≥ ((rd_T165 l0_2 x33_1).f0) then (some false) else (impl_DescOk.l0 k1 l0_2 (l0_2.length : Int) (wrap64 (x33_1 + 1)) a0_0 a0_1 l0_2 a0_3 l0_4)) else (none)) else (none)) = some r := by first | (rw [hji26] at H; exact H) | (simp only [hji26] at H ⊢; exact H)
   (try rw [hji26] at A19)
   (try rw [hji26] at A21)
   (try rw [hji26] at A23)
   have hji26w : (IntKind.i64.wrap (x33_1 - 1)) = ji26 := (i64_w _).trans hji26
   replace H := ifQ H; obtain ⟨c27b0, H⟩ := H
   replace H := ifQ H; obtain ⟨c28b0, H⟩ := H
   revert H; refine iP (fun c29b0 H => ?_) (fun c29b0 H => ?_)
   ·obtain rfl := sI H
    try go_wp2
    have nx1 : Aside0 ((((wx1.setCell ⟨gbx1, 0, none⟩ (.int .i64 ((rd_T165 l0_2 x33_1).f0))).setCell ⟨gbx1, 1, none⟩ (.int .i64 ((rd_T165 l0_2 x33_1).f1))).setCell ⟨gbx1, 2, none⟩ (.int .i64 ((rd_T165 l0_2 x33_1).f2))).heap[gbz1]? = some (.cells #[.int .i64 a0_0, .int .i64 a0_1, .slice (some adx1) l0_2.length c0_2, .int .i64 a0_3, .slice A0_4 l0_4.length c0_4] 162 (0, 0))) := ⟨(bF BKz1.out)⟩
    have nx2 : Aside0 ((((wx1.setCell ⟨gbx1, 0, none⟩ (.int .i64 ((rd_T165 l0_2 x33_1).f0))).setCell ⟨gbx1, 1, none⟩ (.int .i64 ((rd_T165 l0_2 x33_1).f1))).setCell ⟨gbx1, 2, none⟩ (.int .i64 ((rd_T165 l0_2 x33_1).f2))).heap[gbx1]? = some (.cells #[.int .i64 ((rd_T165 l0_2 x33_1).f0), .int .i64 ((rd_T165 l0_2 x33_1).f1), .int .i64 ((rd_T165 l0_2 x33_1).f2)] 165 (0, 0))) := ⟨(bP BKx1.out)⟩
    have nx3 : Aside0 (Below w.heap.size w (((wx1.setCell ⟨gbx1, 0, none⟩ (.int .i64 ((rd_T165 l0_2 x33_1).f0))).setCell ⟨gbx1, 1, none⟩ (.int .i64 ((rd_T165 l0_2 x33_1).f1))).setCell ⟨gbx1, 2, none⟩ (.int .i64 ((rd_T165 l0_2 x33_1).f2)))) := ⟨(hX HB.out)⟩
    (try clear BKz1)
    (try clear BKx1)
    (try clear HB)
    generalize (((wx1.setCell ⟨gbx1, 0, none⟩ (.int .i64 ((rd_T165 l0_2 x33_1).f0))).setCell ⟨gbx1, 1, none⟩ (.int .i64 ((rd_T165 l0_2 x33_1).f1))).setCell ⟨gbx1, 2, none⟩ (.int .i64 ((rd_T165 l0_2 x33_1).f2))) = wx2 at nx1 nx2 nx3 ⊢
    have BKz1 := nx1
    have BKx1 := nx2
    have HB := nx3
    clear nx1 nx2 nx3
    obtain ⟨adx2, ex2, px2, qx2, hxx4⟩ := at_T165c HR0_2 HB (ji26)
    obtain rfl : adx1 = adx2 := (by injection ex2)
    have hcb0_ := cV3 BKx1.out
    have hcb1_ := cV5 BKz1.out
    refine sR0 32 impl_DescOk.tab6 impl_DescOk.bits6 (fun HT_ HW_ hHeld => ?_)
    refine zA 0 ?_
    refine tA 1 ?_
    refine eD 2 Tryz.func182 (impl_isPlace.calls _ _ _ A19.out) (fun nd hHeld => ?_)
    refine zA 3 ?_
    refine zA 4 ?_
    refine zA 5 ?_
    refine tA 6 ?_
    refine eD 7 Tryz.func183 (impl_isWordNum.calls _ _ _ A21.out) (fun nd hHeld => ?_)
    refine zA 8 ?_
    refine zA 9 ?_
    refine zA 10 ?_
    refine zA 11 ?_
    refine tA 12 ?_
    refine eD 13 Tryz.func183 (impl_isWordNum.calls _ _ _ A23.out) (fun nd hHeld => ?_)
    refine zA 14 ?_
    refine zA 15 ?_
    refine zA 16 ?_
    refine zA 17 ?_
    refine zA 18 ?_
    refine zA 19 ?_
    refine zA 20 ?_
    refine zA 22 ?_
    refine zA 23 ?_
    refine zA 27 ?_
    refine tA 21 ?_
    refine zA 24 ?_
    refine zA 25 ?_
    refine tA 26 ?_
    refine tA 28 ?_
    refine zA 29 ?_
    refine zA 30 ?_
    refine zA 31 ?_
    refine dA ?_
    try go_wp2
    go_ret
    exact ⟨by first | rfl | (simp [errW_none, errW_some] <;> rfl) | (simp only [← hji26]; first | rfl | (simp [errW_none, errW_some] <;> rfl)) | (simp [*, errW_none, errW_some] <;> rfl), (hX HB.out)⟩
   have H' := aM H
   clear H
   try go_wp2
   have nx1 : Aside0 ((((wx1.setCell ⟨gbx1, 0, none⟩ (.int .i64 ((rd_T165 l0_2 x33_1).f0))).setCell ⟨gbx1, 1, none⟩ (.int .i64 ((rd_T165 l0_2 x33_1).f1))).setCell ⟨gbx1, 2, none⟩ (.int .i64 ((rd_T165 l0_2 x33_1).f2))).heap[gbz1]? = some (.cells #[.int .i64 a0_0, .int .i64 a0_1, .slice (some adx1) l0_2.length c0_2, .int .i64 a0_3, .slice A0_4 l0_4.length c0_4] 162 (0, 0))) := ⟨(bF BKz1.out)⟩
   have nx2 : Aside0 ((((wx1.setCell ⟨gbx1, 0, none⟩ (.int .i64 ((rd_T165 l0_2 x33_1).f0))).setCell ⟨gbx1, 1, none⟩ (.int .i64 ((rd_T165 l0_2 x33_1).f1))).setCell ⟨gbx1, 2, none⟩ (.int .i64 ((rd_T165 l0_2 x33_1).f2))).heap[gbx1]? = some (.cells #[.int .i64 ((rd_T165 l0_2 x33_1).f0), .int .i64 ((rd_T165 l0_2 x33_1).f1), .int .i64 ((rd_T165 l0_2 x33_1).f2)] 165 (0, 0))) := ⟨(bP BKx1.out)⟩
   have nx3 : Aside0 (Below w.heap.size w (((wx1.setCell ⟨gbx1, 0, none⟩ (.int .i64 ((rd_T165 l0_2 x33_1).f0))).setCell ⟨gbx1, 1, none⟩ (.int .i64 ((rd_T165 l0_2 x33_1).f1))).setCell ⟨gbx1, 2, none⟩ (.int .i64 ((rd_T165 l0_2 x33_1).f2)))) := ⟨(hX HB.out)⟩
   (try clear BKz1)
   (try clear BKx1)
   (try clear HB)
   generalize (((wx1.setCell ⟨gbx1, 0, none⟩ (.int .i64 ((rd_T165 l0_2 x33_1).f0))).setCell ⟨gbx1, 1, none⟩ (.int .i64 ((rd_T165 l0_2 x33_1).f1))).setCell ⟨gbx1, 2, none⟩ (.int .i64 ((rd_T165 l0_2 x33_1).f2))) = wx2 at nx1 nx2 nx3 ⊢
   have BKz1 := nx1
   have BKx1 := nx2
   have HB := nx3
   clear nx1 nx2 nx3
   obtain ⟨adx2, ex2, px2, qx2, hxx4⟩ := at_T165c HR0_2 HB (ji26)
   obtain rfl : adx1 = adx2 := (by injection ex2)
   have hcb0_ := cV3 BKx1.out
   have hcb1_ := cV5 BKz1.out
   refine sR0 32 impl_DescOk.tab6 impl_DescOk.bits6 (fun HT_ HW_ hHeld => ?_)
   refine zA 0 ?_
   refine tA 1 ?_
   refine eD 2 Tryz.func182 (impl_isPlace.calls _ _ _ A19.out) (fun nd hHeld => ?_)
   refine zA 3 ?_
   refine zA 4 ?_
   refine zA 5 ?_
   refine tA 6 ?_
   refine eD 7 Tryz.func183 (impl_isWordNum.calls _ _ _ A21.out) (fun nd hHeld => ?_)
   refine zA 8 ?_
   refine zA 9 ?_
   refine zA 10 ?_
   refine zA 11 ?_
   refine tA 12 ?_
   refine eD 13 Tryz.func183 (impl_isWordNum.calls _ _ _ A23.out) (fun nd hHeld => ?_)
   refine zA 14 ?_
   refine zA 15 ?_
   refine zA 16 ?_
   refine zA 17 ?_
   refine zA 18 ?_
   refine zA 19 ?_
   refine zA 20 ?_
   refine zA 22 ?_
   refine zA 23 ?_
   refine zA 27 ?_
   refine tA 21 ?_
   refine zA 24 ?_
   refine zA 25 ?_
   refine tA 26 ?_
   refine tA 28 ?_
   refine zA 29 ?_
   refine zA 30 ?_
   refine zA 31 ?_
   refine dA ?_
   try go_wp2
   go_roundg k1
   case measure => have := HKy1.out; omega
   case rel => exact ⟨(wrap64 (x33_1 + 1)), rS, H', ⟨by have := HKy1.out; omega⟩, ⟨(bX BKz1.out)⟩, ⟨(hX HB.out)⟩⟩
def impl_MemOk_1.f (k : Nat) (a0_0 : Int) (a0_1 : Int) (l0_2 : List (S165)) (a0_3 : Int) (l0_4 : List Int) : Option (Bool) := (impl_DescOk.f k a0_0 a0_1 l0_2 a0_3 l0_4).bind fun t102 => (some (!t102))
theorem impl_MemOk_1.calls (k : Nat) (a0_0 : Int) (a0_1 : Int) (A0_2 : Option Addr) (c0_2 : Nat) (l0_2 : List (S165)) (a0_3 : Int) (A0_4 : Option Addr) (c0_4 : Nat) (l0_4 : List Int) (r : Bool) (w : World) (hr0_2 : Kd.C k165 w A0_2 l0_2.length l0_2) (hc0_2 : l0_2.length ≤ c0_2) (hr0_4 : Kd.C (Kd.int .i64) w A0_4 l0_4.length l0_4) (hc0_4 : l0_4.length ≤ c0_4) (h : impl_MemOk_1.f k a0_0 a0_1 l0_2 a0_3 l0_4 = some r) :
  Calls Tryz.prog 170 #[.agg #[.int .i64 a0_0, .int .i64 a0_1, .slice A0_2 l0_2.length c0_2, .int .i64 a0_3, .slice A0_4 l0_4.length c0_4]] w fun e w' => e = .returned (.bool r) ∧ Below w.heap.size w w' := by
 have hu162 := Tryz.underlying162
 have HR0_2 := aM hr0_2
 have HC0_2 := aM hc0_2
 clear hr0_2 hc0_2
 have HR0_4 := aM hr0_4
 have HC0_4 := aM hc0_4
 clear hr0_4 hc0_4
 have HB := aM (Below.refl w.heap.size w)
 have H := h
 unfold impl_MemOk_1.f at H
 clear h
 replace H := bE H; obtain ⟨t102, A2, H⟩ := H
 obtain rfl := sI H
 go_enter Tryz.func170, Tryz.ntmps170
 go_wp2_with (first | (refine boxE 1 #[.int .i64 a0_0, .int .i64 a0_1, .slice A0_2 l0_2.length c0_2, .int .i64 a0_3, .slice A0_4 l0_4.length c0_4] 162 ?_; intro gbz1 hg wz1 hbox hb; have BKz1 := aM (hbox); have GWz1 := aG hg HB; have GEz1 := aG hg HB; replace HB := aS HB hb; clear hb hbox hg; have hczz1 := cZ5 BKz1.out) | (refine gB 171 4 Tryz.func171 (impl_DescOk.calls _ _ _ _ _ _ _ _ _ _ _ _ (cC HR0_2.out HB.out) HC0_2.out (cC HR0_4.out HB.out) HC0_4.out A2.out) ?_; intro wz2 hb; replace BKz1 := aB BKz1 hb; replace HB := aS HB hb; clear hb))
 go_ret
 exact ⟨rE, (hX HB.out)⟩
def impl_Desc_208_170.l0 : Nat → List (S162) → Int → Int → Option (Int)
 | 0, _, _, _ => none
 | k + 1, x0, x7, x8 => if x8 < x7 then (if 0 ≤ x8 then (if x8 < (x0.length : Int) then ((impl_MemOk_1.f k ((rd_T162 x0 x8).f0) ((rd_T162 x0 x8).f1) ((rd_T162 x0 x8).f2) ((rd_T162 x0 x8).f3.f0) ((rd_T162 x0 x8).f3.f1)).bind fun t102 => (if t102 = true then (some x8) else (impl_Desc_208_170.l0 k x0 x7 (wrap64 (x8 + 1))))) else (none)) else (none)) else (some (-1))
def impl_Desc_208_170.f (k : Nat) (l0 : List (S162))  : Option (Int) := impl_Desc_208_170.l0 k l0 (l0.length : Int) 0
theorem impl_Desc_208_170.calls (k : Nat) (A0 : Option Addr) (c0 : Nat) (l0 : List (S162))  (r : Int) (w : World) (hr0 : Kd.C k162 w A0 l0.length l0) (hc0 : l0.length ≤ c0) (h : impl_Desc_208_170.f k l0 = some r) :
  Calls Tryz.prog 208 #[.slice A0 l0.length c0, .func (.func 170) #[] #[]] w fun e w' => e = .returned (.int .i64 r) ∧ Below w.heap.size w w' := by
 have hu162 := Tryz.underlying162
 have HR0 := aM hr0
 have HC0 := aM hc0
 clear hr0 hc0
 have HB := aM (Below.refl w.heap.size w)
 have H := h
 unfold impl_Desc_208_170.f at H
 clear h
 have H' := aM H
 clear H
 go_enter Tryz.func208, Tryz.ntmps208
 go_wp2
 go_loopg [8] k (fun kq v8 w' => ∃ (x8_1 : Int), v8 = .int .i64 x8_1 ∧ Aside0 (impl_Desc_208_170.l0 kq l0 (l0.length : Int) x8_1 = some r) ∧ Aside0 (kq ≤ k) ∧ Aside0 (Below w.heap.size w w'))
 case atStart => exact ⟨(0), rS, H', ⟨Nat.le_refl _⟩, ⟨(hX HB.out)⟩⟩
 case round =>
  clear H'
  obtain ⟨x8_1, rfl, HA, HKy1, HB⟩ := hrel
  cases gk with
  | zero => exact absurd HA.out (by simp [impl_Desc_208_170.l0])
  | succ k1 =>
   have H := HA.out
   clear HA
   simp only [impl_Desc_208_170.l0] at H
   revert H; refine iN (fun c3b0 H => ?_) (fun c3b0 H => ?_)
   ·obtain rfl := sI H
    exact fS
   replace H := ifQ H; obtain ⟨c4b0, H⟩ := H
   replace H := ifQ H; obtain ⟨c5b0, H⟩ := H
   replace H := bE H; obtain ⟨t102, A6, H⟩ := H
   cases t102
   case true =>
    rw [if_pos rfl] at H
    obtain rfl := sI H
    obtain ⟨adx1, Ax1, cx1, Ax2, cx2, ex1, px1, qx1, hxx1, HCx1, HRx1, HCx2, HRx2⟩ := at_T162c HR0 HB x8_1
    cases ex1
    go_wp2_with ((with_reducible refine Go.Proofs.YtmljebgideecjaaGreatZ.gate_calleeT (t := 11) rfl ?_); refine Go.Proofs.YtmljebgideecjaaGreatZ.goesT_ (some 16) 11 rfl rfl Tryz.func170 (by kernel_rfl) rfl #[.agg #[.int .i64 ((rd_T162 l0 x8_1).f0), .int .i64 ((rd_T162 l0 x8_1).f1), .slice Ax1 ((rd_T162 l0 x8_1).f2).length cx1, .int .i64 ((rd_T162 l0 x8_1).f3.f0), .slice Ax2 ((rd_T162 l0 x8_1).f3.f1).length cx2]] rfl rfl (by (try simp only [List.map_toArray, List.map_cons, List.map_nil]); first | done | rfl | (simp only [List.length_drop, List.length_take]; rfl)) ?_; refine (impl_MemOk_1.calls k1 ((rd_T162 l0 x8_1).f0) ((rd_T162 l0 x8_1).f1) _ _ ((rd_T162 l0 x8_1).f2) ((rd_T162 l0 x8_1).f3.f0) _ _ ((rd_T162 l0 x8_1).f3.f1) true _ (cC HRx1.out HB.out) HCx1.out (cC HRx2.out HB.out) HCx2.out A6.out).mono ?_; rintro e wx1 ⟨rfl, hb⟩; refine ⟨_, rfl, ?_⟩; replace HB := aS HB hb; clear hb)
    go_ret
    exact ⟨rE, (hX HB.out)⟩
   rw [if_neg nft] at H
   have H' := aM H
   clear H
   obtain ⟨adx1, Ax1, cx1, Ax2, cx2, ex1, px1, qx1, hxx1, HCx1, HRx1, HCx2, HRx2⟩ := at_T162c HR0 HB x8_1
   cases ex1
   go_wp2_with ((with_reducible refine Go.Proofs.YtmljebgideecjaaGreatZ.gate_calleeT (t := 11) rfl ?_); refine Go.Proofs.YtmljebgideecjaaGreatZ.goesT_ (some 16) 11 rfl rfl Tryz.func170 (by kernel_rfl) rfl #[.agg #[.int .i64 ((rd_T162 l0 x8_1).f0), .int .i64 ((rd_T162 l0 x8_1).f1), .slice Ax1 ((rd_T162 l0 x8_1).f2).length cx1, .int .i64 ((rd_T162 l0 x8_1).f3.f0), .slice Ax2 ((rd_T162 l0 x8_1).f3.f1).length cx2]] rfl rfl (by (try simp only [List.map_toArray, List.map_cons, List.map_nil]); first | done | rfl | (simp only [List.length_drop, List.length_take]; rfl)) ?_; refine (impl_MemOk_1.calls k1 ((rd_T162 l0 x8_1).f0) ((rd_T162 l0 x8_1).f1) _ _ ((rd_T162 l0 x8_1).f2) ((rd_T162 l0 x8_1).f3.f0) _ _ ((rd_T162 l0 x8_1).f3.f1) false _ (cC HRx1.out HB.out) HCx1.out (cC HRx2.out HB.out) HCx2.out A6.out).mono ?_; rintro e wx1 ⟨rfl, hb⟩; refine ⟨_, rfl, ?_⟩; replace HB := aS HB hb; clear hb)
   go_roundg k1
   case measure => have := HKy1.out; omega
   case rel => exact ⟨(wrap64 (x8_1 + 1)), rS, H', ⟨by have := HKy1.out; omega⟩, ⟨(hX HB.out)⟩⟩
def impl_Desc_169_170.f (k : Nat) (l0 : List (S162))  : Option (Bool) := (impl_Desc_208_170.f k l0).bind fun t101 => (some (decide (t101 ≥ 0)))
theorem impl_Desc_169_170.calls (k : Nat) (A0 : Option Addr) (c0 : Nat) (l0 : List (S162))  (r : Bool) (w : World) (hr0 : Kd.C k162 w A0 l0.length l0) (hc0 : l0.length ≤ c0) (h : impl_Desc_169_170.f k l0 = some r) :
  Calls Tryz.prog 169 #[.slice A0 l0.length c0, .func (.func 170) #[] #[]] w fun e w' => e = .returned (.bool r) ∧ Below w.heap.size w w' := by
 have HR0 := aM hr0
 have HC0 := aM hc0
 clear hr0 hc0
 have HB := aM (Below.refl w.heap.size w)
 have H := h
 unfold impl_Desc_169_170.f at H
 clear h
 replace H := bE H; obtain ⟨t101, A3, H⟩ := H
 obtain rfl := sI H
 go_enter Tryz.func169, Tryz.ntmps169
 go_wp2_with (refine gB 208 7 Tryz.func208 (impl_Desc_208_170.calls _ _ _ _ _ _ (cX HR0.out) HC0.out A3.out) ?_; intro wz1 hb; replace HB := aS HB hb; clear hb)
 go_ret
 exact ⟨rE, (hX HB.out)⟩
def impl_WordOk.f (a0_0 : Int) (a0_1 : Int) (a0_2 : Int) (a1 : Int) : Option (Bool) := if a0_1 = 0 then ((impl_isWordNum.f a0_0).bind fun t102 => (if t102 = true then (some (a0_2 == 0)) else (some false))) else (if a0_0 = 0 then ((impl_from.f a0_1 1 a1).bind fun t103 => (if t103 = true then ((impl_from.f a0_2 1 1000000).bind fun t104 => (some t104)) else (some false))) else (some false))
theorem impl_WordOk.calls (a0_0 : Int) (a0_1 : Int) (a0_2 : Int) (a1 : Int) (r : Bool) (w : World) (h : impl_WordOk.f a0_0 a0_1 a0_2 a1 = some r) :
  Calls Tryz.prog 172 #[.agg #[.int .i64 a0_0, .int .i64 a0_1, .int .i64 a0_2], .int .i64 a1] w fun e w' => e = .returned (.bool r) ∧ Below w.heap.size w w' := by
 have hu140 := Tryz.underlying140
 have HB := aM (Below.refl w.heap.size w)
 have H := h
 unfold impl_WordOk.f at H
 clear h
 go_enter Tryz.func172, Tryz.ntmps172
 go_wp2_with (refine boxE 2 #[.int .i64 a0_0, .int .i64 a0_1, .int .i64 a0_2] 140 ?_; intro gbz1 hg wz1 hbox hb; have BKz1 := aM (hbox); have GWz1 := aG hg HB; have GEz1 := aG hg HB; replace HB := aS HB hb; clear hb hbox hg; have hczz1 := cZ3 BKz1.out; refine Stop.out ?_)
 refine ⟨?_⟩
 revert H; refine eP (fun c3b0 c3b1 H => ?_) (fun c3b0 c3b1 H => ?_)
 ·replace H := bE H; obtain ⟨t102, A4, H⟩ := H
  cases t102
  case true =>
   rw [if_pos rfl] at H
   obtain rfl := sI H
   go_wp2_with (refine gD 183 10 Tryz.func183 (impl_isWordNum.calls _ _ _ A4.out) ?_; intro nd)
   go_ret
   exact ⟨rE, (hX HB.out)⟩
  rw [if_neg nft] at H
  obtain rfl := sI H
  go_wp2_with (refine gD 183 10 Tryz.func183 (impl_isWordNum.calls _ _ _ A4.out) ?_; intro nd)
  go_ret
  exact ⟨rE, (hX HB.out)⟩
 revert H; refine eN (fun c10b0 c10b1 H => ?_) (fun c10b0 c10b1 H => ?_)
 ·obtain rfl := sI H
  exact fS
 replace H := bE H; obtain ⟨t103, A11, H⟩ := H
 cases t103
 case false =>
  rw [if_neg nft] at H
  obtain rfl := sI H
  go_wp2_with (go_at_call 102; (with_reducible refine (impl_from.calls _ _ _ _ _ A11.out).mono ?_); rintro e w' ⟨rfl, ⟨nd, rfl⟩⟩)
  go_ret
  exact ⟨rE, (hX HB.out)⟩
 rw [if_pos rfl] at H
 replace H := bE H; obtain ⟨t104, A13, H⟩ := H
 obtain rfl := sI H
 go_wp2_with (first | (go_at_call 102; (with_reducible refine (impl_from.calls _ _ _ _ _ A11.out).mono ?_); rintro e w' ⟨rfl, ⟨nd, rfl⟩⟩) | (go_at_call 102; (with_reducible refine (impl_from.calls _ _ _ _ _ A13.out).mono ?_); rintro e w' ⟨rfl, ⟨nd, rfl⟩⟩))
 go_ret
 exact ⟨rE, (hX HB.out)⟩
def impl_Entries.l0 : Nat → Int → List (S165) → Int → Int → Option (Int × Int × Int × Bool)
 | 0, _, _, _, _ => none
 | k + 1, x1, x9, x10, x11 => if x11 < x10 then (if 0 ≤ x11 then (if x11 < (x9.length : Int) then (if ((rd_T165 x9 x11).f0) = x1 then (some ((rd_T165 x9 x11).f0, (rd_T165 x9 x11).f1, (rd_T165 x9 x11).f2, true)) else (impl_Entries.l0 k x1 x9 x10 (wrap64 (x11 + 1)))) else (none)) else (none)) else (some (0, 0, 0, false))
def impl_Entries.f (k : Nat) (a0_0 : Int) (a0_1 : Int) (l0_2 : List (S165)) (a0_3 : Int) (l0_4 : List Int) (a1 : Int) : Option (Int × Int × Int × Bool) := impl_Entries.l0 k a1 l0_2 (l0_2.length : Int) 0
theorem impl_Entries.calls (k : Nat) (a0_0 : Int) (a0_1 : Int) (A0_2 : Option Addr) (c0_2 : Nat) (l0_2 : List (S165)) (a0_3 : Int) (A0_4 : Option Addr) (c0_4 : Nat) (l0_4 : List Int) (a1 : Int) (r1 : Int) (r2 : Int) (r3 : Int) (r4 : Bool) (w : World) (hr0_2 : Kd.C k165 w A0_2 l0_2.length l0_2) (hc0_2 : l0_2.length ≤ c0_2) (hr0_4 : Kd.C (Kd.int .i64) w A0_4 l0_4.length l0_4) (hc0_4 : l0_4.length ≤ c0_4) (h : impl_Entries.f k a0_0 a0_1 l0_2 a0_3 l0_4 a1 = some (r1, r2, r3, r4)) :
  Calls Tryz.prog 173 #[.agg #[.int .i64 a0_0, .int .i64 a0_1, .slice A0_2 l0_2.length c0_2, .int .i64 a0_3, .slice A0_4 l0_4.length c0_4], .int .i64 a1] w fun e w' => e = .returned (.tuple #[.agg #[.int .i64 r1, .int .i64 r2, .int .i64 r3], .bool r4]) ∧ Below w.heap.size w w' := by
 have hu162 := Tryz.underlying162
 have hu165 := Tryz.underlying165
 have HR0_2 := aM hr0_2
 have HC0_2 := aM hc0_2
 clear hr0_2 hc0_2
 have HR0_4 := aM hr0_4
 have HC0_4 := aM hc0_4
 clear hr0_4 hc0_4
 have HB := aM (Below.refl w.heap.size w)
 have H := h
 unfold impl_Entries.f at H
 clear h
 have H' := aM H
 clear H
 go_enter Tryz.func173, Tryz.ntmps173
 go_wp2_with (first | (refine boxE 2 #[.int .i64 a0_0, .int .i64 a0_1, .slice A0_2 l0_2.length c0_2, .int .i64 a0_3, .slice A0_4 l0_4.length c0_4] 162 ?_; intro gbz1 hg wz1 hbox hb; have BKz1 := aM (hbox); have GWz1 := aG hg HB; have GEz1 := aG hg HB; replace HB := aS HB hb; clear hb hbox hg) | (refine boxE 4 #[.int .i64 0, .int .i64 0, .int .i64 0] 165 ?_; intro gbz2 hg wz2 hbox hb; have BKz2 := aM (hbox); have GWz2 := aG hg HB; have GEz2 := aG hg HB; have NBz1 := aL hg BKz1; have NBz2 := aR hg BKz1; replace BKz1 := aB BKz1 hb; replace HB := aS HB hb; clear hb hbox hg; have hnbz1 := NBz1.out; have hncz1 := NBz2.out; have hczz1 := cZ5 BKz1.out))
 go_loopg [11] k (fun kq v11 w' => ∃ (x11_1 : Int) (x103000_1 : Int) (x103001_1 : Int) (x103002_1 : Int), v11 = .int .i64 x11_1 ∧ Aside0 (impl_Entries.l0 kq a1 l0_2 (l0_2.length : Int) x11_1 = some (r1, r2, r3, r4)) ∧ Aside0 (kq ≤ k) ∧ Aside0 (w'.heap[gbz1]? = some (.cells #[.int .i64 a0_0, .int .i64 a0_1, (.slice A0_2 l0_2.length c0_2), .int .i64 a0_3, (.slice A0_4 l0_4.length c0_4)] 162 (0, 0))) ∧ Aside0 (w'.heap[gbz2]? = some (.cells #[.int .i64 x103000_1, .int .i64 x103001_1, .int .i64 x103002_1] 165 (0, 0))) ∧ Aside0 (Below w.heap.size w w'))
 case atStart => exact ⟨(0), (0), (0), (0), rS, H', ⟨Nat.le_refl _⟩, ⟨(bX BKz1.out)⟩, ⟨(bX BKz2.out)⟩, ⟨(hX HB.out)⟩⟩
 case round =>
  clear H'
  try clear hczz1
  obtain ⟨x11_1, x103000_1, x103001_1, x103002_1, rfl, HA, HKy1, BKz1, BKz2, HB⟩ := hrel
  cases gk with
  | zero => exact absurd HA.out (by simp [impl_Entries.l0])
  | succ k1 =>
   have H := HA.out
   clear HA
   simp only [impl_Entries.l0] at H
   revert H; refine iN (fun c7b0 H => ?_) (fun c7b0 H => ?_)
   ·simp only [Option.some.injEq, Prod.mk.injEq] at H
    obtain ⟨rfl, rfl, rfl, rfl⟩ := H
    have hnbx1 := NBz2.out
    have hncx1 := NBz1.out
    have hczx1 := cZ3 BKz2.out
    go_wp2
    refine bodyPost_ret (results_ct rfl _ _ gbz2 165 #[.int .i64 0, .int .i64 0, .int .i64 0] (0, 0) _ rfl (bP BKz2.out) Tryz.underlying165 rfl (by kernel_rfl)) rfl ?_
    exact ⟨rE, (hX HB.out)⟩
   replace H := ifQ H; obtain ⟨c8b0, H⟩ := H
   replace H := ifQ H; obtain ⟨c9b0, H⟩ := H
   revert H; refine eN (fun c10b0 c10b1 H => ?_) (fun c10b0 c10b1 H => ?_)
   ·have H' := aM H
    clear H
    obtain ⟨adx1, ex1, px1, qx1, hxx1⟩ := at_T165c HR0_2 HB x11_1
    cases ex1
    go_wp2_with (refine boxE 7 #[.int .i64 0, .int .i64 0, .int .i64 0] 165 ?_; intro gbx1 hg wx1 hbox hb; have BKx1 := aM (hbox); have GWx1 := aG hg HB; have GEx1 := aG hg HB; have NBx1 := aL hg BKz1; have NBx2 := aR hg BKz1; have NBx3 := aL hg BKz2; have NBx4 := aR hg BKz2; replace BKz1 := aB BKz1 hb; replace BKz2 := aB BKz2 hb; replace HB := aS HB hb; clear hb hbox hg; have hnbx1 := NBx2.out; have hncx1 := NBx1.out; have hnbx2 := NBx4.out; have hncx2 := NBx3.out; have hczx1 := cZ3 BKx1.out)
    go_roundg k1
    case measure => have := HKy1.out; omega
    case rel => exact ⟨(wrap64 (x11_1 + 1)), (x103000_1), (x103001_1), (x103002_1), rS, H', ⟨by have := HKy1.out; omega⟩, ⟨(bF BKz1.out)⟩, ⟨(bF BKz2.out)⟩, ⟨(hX HB.out)⟩⟩
   simp only [Option.some.injEq, Prod.mk.injEq] at H
   obtain ⟨rfl, rfl, rfl, rfl⟩ := H
   obtain ⟨adx1, ex1, px1, qx1, hxx1⟩ := at_T165c HR0_2 HB x11_1
   cases ex1
   go_wp2_with (refine boxE 7 #[.int .i64 0, .int .i64 0, .int .i64 0] 165 ?_; intro gbx1 hg wx1 hbox hb; have BKx1 := aM (hbox); have GWx1 := aG hg HB; have GEx1 := aG hg HB; have NBx1 := aL hg BKz1; have NBx2 := aR hg BKz1; have NBx3 := aL hg BKz2; have NBx4 := aR hg BKz2; replace BKz1 := aB BKz1 hb; replace BKz2 := aB BKz2 hb; replace HB := aS HB hb; clear hb hbox hg; have hnbx1 := NBx2.out; have hncx1 := NBx1.out; have hnbx2 := NBx4.out; have hncx2 := NBx3.out; have hczx1 := cZ3 BKx1.out; have hnbx3 := NBz2.out; have hncx3 := NBz1.out; have hczx4 := cZ3 BKz2.out)
   refine bodyPost_ret (results_ct rfl _ _ gbz2 165 #[.int .i64 ((rd_T165 l0_2 x11_1).f0), .int .i64 ((rd_T165 l0_2 x11_1).f1), .int .i64 ((rd_T165 l0_2 x11_1).f2)] (0, 0) _ rfl (bP BKz2.out) Tryz.underlying165 rfl (by kernel_rfl)) rfl ?_
   exact ⟨rE, (hX HB.out)⟩
end Go.Proofs.YtmljebgideecjaaGreat.P2
