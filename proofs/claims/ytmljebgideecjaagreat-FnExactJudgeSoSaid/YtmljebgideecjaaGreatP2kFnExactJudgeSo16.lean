/- A part of the proof of the law FnExactJudgeSo: texts of this seat, merged (words, printed functions of the program, plain lemmas). Conditions: none of its own. -/
import Derived.Test.YtmljebgideecjaaGreatP2kFnExactJudgeSo1
import Derived.Test.YtmljebgideecjaaGreatP2kFnExactJudgeSo4
import Derived.Test.YtmljebgideecjaaGreatP2kFnExactJudgeSo5
import Derived.Test.YtmljebgideecjaaGreatP2kFnExactJudgeSo6
import Derived.Test.YtmljebgideecjaaGreatP2kFnExactJudgeSo12
import Derived.Test.YtmljebgideecjaaGreatP2kFnExactJudgeSo13
import Derived.Test.YtmljebgideecjaaGreatP2kFnExactJudgeSo14
import Derived.Test.YtmljebgideecjaaGreatP2kFnExactJudgeSo15
set_option linter.unusedSimpArgs false
set_option linter.unusedVariables false
set_option maxHeartbeats 8000000
set_option maxRecDepth 100000
namespace Go.Proofs.YtmljebgideecjaaGreat.P2
open Go.Proofs.YtmljebgideecjaaGreatZ Go.RowKit Go.Proofs.YtmljebgideecjaaGreatW.PrintWords Go.Proofs.YtmljebgideecjaaGreatW.PrintLast Go.Proofs.YtmljebgideecjaaGreatW.PrintMore
attribute [local go_sem] max2_int min2_int max_two min_two max_three min_three max_four min_four   -- for this text's walks alone
mutual
def spec_MachineOk.j0 : Nat → Bool → List (S140) → List (S162) → List (S97) → Int → List (S73) → List Int → List Int → Int → Option (Bool)
 | 0, _, _, _, _, _, _, _, _, _ => none
 | k + 1, x34, x102000, x102001, x102002, x102003, x102004, x102005, x102006, x102007 => if x34 = true then (some false) else (spec_MachineOk.l0 k 0 x102000 x102001 x102002 x102003 x102004 x102005 x102006 x102007)
def spec_MachineOk.l0 : Nat → Int → List (S140) → List (S162) → List (S97) → Int → List (S73) → List Int → List Int → Int → Option (Bool)
 | 0, _, _, _, _, _, _, _, _, _ => none
 | k + 1, x3, x102000, x102001, x102002, x102003, x102004, x102005, x102006, x102007 => if x3 < (x102002.length : Int) then (if 0 ≤ x3 then ((spec_ThreadOk.f k ((rd_T97 x102002 x3).f0) ((rd_T97 x102002 x3).f1) ((rd_T97 x102002 x3).f2) ((rd_T97 x102002 x3).f3) ((rd_T97 x102002 x3).f4) (x102002.length : Int)).bind fun t107 => (if t107 = true then ((spec_l9Thread.f k x102000 x102001 x102002 x102003 x102004 x102005 x102006 x102007 x3).bind fun t108 => (if t108 = true then (spec_MachineOk.l0 k (wrap64 (x3 + 1)) x102000 x102001 x102002 x102003 x102004 x102005 x102006 x102007) else (some false))) else (some false))) else (none)) else (some true)
end
def spec_MachineOk.f (k : Nat) (l0_0 : List (S140)) (l0_1 : List (S162)) (l0_2 : List (S97)) (a0_3 : Int) (l0_4 : List (S73)) (l0_5 : List Int) (l0_6 : List Int) (a0_7 : Int) : Option (Bool) := (spec_MemOk.f k l0_0 l0_1).bind fun t102 => (if t102 = true then (if (l0_1.length : Int) = (l0_2.length : Int) then ((spec_l1In.f a0_3 0 100000).bind fun t103 => (if t103 = true then ((spec_RowsOk.f k l0_6 a0_7).bind fun t104 => (if t104 = true then ((spec_l9Calls.f k l0_0 l0_1 l0_2 a0_3 l0_4 l0_5 l0_6 a0_7).bind fun t105 => (spec_MachineOk.j0 k (!t105) l0_0 l0_1 l0_2 a0_3 l0_4 l0_5 l0_6 a0_7)) else (spec_MachineOk.j0 k true l0_0 l0_1 l0_2 a0_3 l0_4 l0_5 l0_6 a0_7))) else (spec_MachineOk.j0 k true l0_0 l0_1 l0_2 a0_3 l0_4 l0_5 l0_6 a0_7))) else (spec_MachineOk.j0 k true l0_0 l0_1 l0_2 a0_3 l0_4 l0_5 l0_6 a0_7)) else (spec_MachineOk.j0 k true l0_0 l0_1 l0_2 a0_3 l0_4 l0_5 l0_6 a0_7))
def spec_MachineOk.T6 : Bool × List (List Nat × List Nat) := (true, [([], []), ([0], [0]), ([], []), ([1, 2], [1, 2]), ([3], [3]), ([], []), ([5], [5]), ([6], [6]), ([4, 7], [4, 7]), ([8], [8]), ([9, 8], [9]), ([10], [10]), ([10], [10]), ([11, 12, 10, 10], [10, 11, 12]), ([13, 10], [10, 13]), ([10, 14], [10, 14])])
def spec_MachineOk.B6 : List Nat := [0, 1, 0, 7, 15, 0, 32, 96, 255, 511, 1023, 2047, 2047, 8191, 16383, 32767]
theorem spec_MachineOk.tab6 : rtab .any (opsOf Tryz.f42 6) = spec_MachineOk.T6 := by kernel_rfl
theorem spec_MachineOk.bits6 : waitsOk spec_MachineOk.T6.2 spec_MachineOk.B6 = true := by kernel_rfl
theorem spec_MachineOk.calls (k : Nat) (A0_0 : Option Addr) (c0_0 : Nat) (l0_0 : List (S140)) (A0_1 : Option Addr) (c0_1 : Nat) (l0_1 : List (S162)) (A0_2 : Option Addr) (c0_2 : Nat) (l0_2 : List (S97)) (a0_3 : Int) (A0_4 : Option Addr) (c0_4 : Nat) (l0_4 : List (S73)) (A0_5 : Option Addr) (c0_5 : Nat) (l0_5 : List Int) (A0_6 : Option Addr) (c0_6 : Nat) (l0_6 : List Int) (a0_7 : Int) (r : Bool) (w : World) (hr0_0 : Kd.C k140 w A0_0 l0_0.length l0_0) (hc0_0 : l0_0.length ≤ c0_0) (hr0_1 : Kd.C k162 w A0_1 l0_1.length l0_1) (hc0_1 : l0_1.length ≤ c0_1) (hr0_2 : Kd.C k97 w A0_2 l0_2.length l0_2) (hc0_2 : l0_2.length ≤ c0_2) (hr0_4 : Kd.C k73 w A0_4 l0_4.length l0_4) (hc0_4 : l0_4.length ≤ c0_4) (hr0_5 : Kd.C (Kd.int .i64) w A0_5 l0_5.length l0_5) (hc0_5 : l0_5.length ≤ c0_5) (hr0_6 : Kd.C (Kd.int .i64) w A0_6 l0_6.length l0_6) (hc0_6 : l0_6.length ≤ c0_6) (h : spec_MachineOk.f k l0_0 l0_1 l0_2 a0_3 l0_4 l0_5 l0_6 a0_7 = some r) :
  Calls Tryz.prog 42 #[.agg #[.slice A0_0 l0_0.length c0_0, .slice A0_1 l0_1.length c0_1, .slice A0_2 l0_2.length c0_2, .int .i64 a0_3, .slice A0_4 l0_4.length c0_4, .slice A0_5 l0_5.length c0_5, .slice A0_6 l0_6.length c0_6, .int .i64 a0_7]] w fun e w' => e = .returned (.bool r) ∧ Below w.heap.size w w' := by
 have hu43 := Tryz.underlying43
 have hu38 := Tryz.underlying38
 have hu41 := Tryz.underlying41
 have hu97 := Tryz.underlying97
 have HR0_0 := aM hr0_0
 have HC0_0 := aM hc0_0
 clear hr0_0 hc0_0
 have HR0_1 := aM hr0_1
 have HC0_1 := aM hc0_1
 clear hr0_1 hc0_1
 have HR0_2 := aM hr0_2
 have HC0_2 := aM hc0_2
 clear hr0_2 hc0_2
 have HR0_4 := aM hr0_4
 have HC0_4 := aM hc0_4
 clear hr0_4 hc0_4
 have HR0_5 := aM hr0_5
 have HC0_5 := aM hc0_5
 clear hr0_5 hc0_5
 have HR0_6 := aM hr0_6
 have HC0_6 := aM hc0_6
 clear hr0_6 hc0_6
 have HB := aM (Below.refl w.heap.size w)
 have H := h
 unfold spec_MachineOk.f at H
 clear h
 have HC2 := aM H
 clear H
 go_enter Tryz.func42, Tryz.ntmps42
 go_upto_region 1 with ((with_reducible refine gate_dst (N := 1) rfl ?_); (try (refine gate_guard (by rfl) ?_; dsimp only)); refine boxF 1 #[.slice A0_0 l0_0.length c0_0, .slice A0_1 l0_1.length c0_1, .slice A0_2 l0_2.length c0_2, .int .i64 a0_3, .slice A0_4 l0_4.length c0_4, .slice A0_5 l0_5.length c0_5, .slice A0_6 l0_6.length c0_6, .int .i64 a0_7] 43 ?_; intro gbz1 hg wz1 hbox hb; have BKz1 := aM (hbox); have GWz1 := aG hg HB; have GEz1 := aG hg HB; replace HB := aS HB hb; clear hb hbox hg)
 (try simp only [Act.put, List.setIfInBounds_toArray, List.set_cons_zero, List.set_cons_succ])
 go_cut [34] (fun vz1 wc => ∃ (kq : Nat) (x34_1 : Bool), vz1 = .bool x34_1 ∧ Aside0 (spec_MachineOk.j0 kq x34_1 l0_0 l0_1 l0_2 a0_3 l0_4 l0_5 l0_6 a0_7 = some r) ∧ Aside0 (kq ≤ k) ∧ Aside0 (wc.heap[gbz1]? = some (.cells #[(.slice A0_0 l0_0.length c0_0), (.slice A0_1 l0_1.length c0_1), (.slice A0_2 l0_2.length c0_2), .int .i64 a0_3, (.slice A0_4 l0_4.length c0_4), (.slice A0_5 l0_5.length c0_5), (.slice A0_6 l0_6.length c0_6), .int .i64 a0_7] 43 (0, 0))) ∧ Aside0 (Below w.heap.size w wc))
 case first =>
  have H := HC2.out
  clear HC2
  replace H := bE H; obtain ⟨t102, A4, H⟩ := H
  cases t102
  case false =>
   rw [if_neg nft] at H
   have H' := aM H
   clear H
   have hczy1 := cZ8 BKz1.out
   go_wp2_with (refine gB 92 6 Tryz.func92 (spec_MemOk.calls _ _ _ _ _ _ _ _ _ (cC HR0_0.out HB.out) HC0_0.out (cC HR0_1.out HB.out) HC0_1.out A4.out) ?_; intro wy1 hb; replace BKz1 := aB BKz1 hb; replace HB := aS HB hb; clear hb)
   go_meet
   case rel => exact ⟨_, (true), rS, H', ⟨by first | omega | exact Nat.le_refl _⟩, ⟨(bX BKz1.out)⟩, ⟨(hX HB.out)⟩⟩
  rw [if_pos rfl] at H
  have hczy1 := cZ8 BKz1.out
  go_wp2_with (refine gB 92 6 Tryz.func92 (spec_MemOk.calls _ _ _ _ _ _ _ _ _ (cC HR0_0.out HB.out) HC0_0.out (cC HR0_1.out HB.out) HC0_1.out A4.out) ?_; intro wy1 hb; replace BKz1 := aB BKz1 hb; replace HB := aS HB hb; clear hb; have hczy9 := cZ8 BKz1.out; refine Stop.out ?_)
  refine ⟨?_⟩
  by_cases c6 : (l0_1.length : Int) = (l0_2.length : Int)
  case neg =>
   rw [if_neg c6] at H
   obtain ⟨c6b0, c6b1⟩ := eqF c6
   have c6b2 : (l0_1.length == l0_2.length) = false := by first | simpa using c6 | (simp at c6 ⊢; omega)
   (first | rw [c6b0] | (simp only [i64_w, i32_w]; rw [c6b0]) | skip)
   have H' := aM H
   clear H
   go_wp2
   go_meet
   case rel => exact ⟨_, (true), rS, H', ⟨by first | omega | exact Nat.le_refl _⟩, ⟨(bX BKz1.out)⟩, ⟨(hX HB.out)⟩⟩
  rw [if_pos c6] at H
  obtain ⟨c6b0, c6b1⟩ := eqT c6
  have c6b2 : (l0_1.length == l0_2.length) = true := by first | simpa using c6 | (simp at c6 ⊢; omega)
  clear c6
  (first | rw [c6b0] | (simp only [i64_w, i32_w]; rw [c6b0]) | skip)
  replace H := bE H; obtain ⟨t103, A7, H⟩ := H
  cases t103
  case false =>
   rw [if_neg nft] at H
   have H' := aM H
   clear H
   go_wp2_with (go_at_call 43; (with_reducible refine (spec_l1In.calls _ _ _ _ _ A7.out).mono ?_); rintro e w' ⟨rfl, ⟨nd, rfl⟩⟩)
   go_meet
   case rel => exact ⟨_, (true), rS, H', ⟨by first | omega | exact Nat.le_refl _⟩, ⟨(bX BKz1.out)⟩, ⟨(hX HB.out)⟩⟩
  rw [if_pos rfl] at H
  replace H := bE H; obtain ⟨t104, A9, H⟩ := H
  go_wp2_with (go_at_call 43; (with_reducible refine (spec_l1In.calls _ _ _ _ _ A7.out).mono ?_); rintro e w' ⟨rfl, ⟨nd, rfl⟩⟩; refine Stop.out ?_)
  refine ⟨?_⟩
  cases t104
  case false =>
   rw [if_neg nft] at H
   have H' := aM H
   clear H
   go_wp2_with (go_at_call 93; (with_reducible refine (spec_RowsOk.calls _ _ _ _ _ _ _ (cC HR0_6.out HB.out) HC0_6.out A9.out).mono ?_); rintro e wy2 ⟨rfl, hb⟩; replace BKz1 := aB BKz1 hb; replace HB := aS HB hb; clear hb)
   go_meet
   case rel => exact ⟨_, (true), rS, H', ⟨by first | omega | exact Nat.le_refl _⟩, ⟨(bX BKz1.out)⟩, ⟨(hX HB.out)⟩⟩
  rw [if_pos rfl] at H
  replace H := bE H; obtain ⟨t105, A11, H⟩ := H
  have H' := aM H
  clear H
  go_wp2_with (first | (go_at_call 93; (with_reducible refine (spec_RowsOk.calls _ _ _ _ _ _ _ (cC HR0_6.out HB.out) HC0_6.out A9.out).mono ?_); rintro e wy2 ⟨rfl, hb⟩; replace BKz1 := aB BKz1 hb; replace HB := aS HB hb; clear hb; have hczy17 := cZ8 BKz1.out) | (go_at_call 94; (with_reducible refine (spec_l9Calls.calls _ _ _ _ _ _ _ _ _ _ _ _ _ _ _ _ _ _ _ _ _ _ _ (cC HR0_0.out HB.out) HC0_0.out (cC HR0_1.out HB.out) HC0_1.out (cC HR0_2.out HB.out) HC0_2.out (cC HR0_4.out HB.out) HC0_4.out (cC HR0_5.out HB.out) HC0_5.out (cC HR0_6.out HB.out) HC0_6.out A11.out).mono ?_); rintro e wy3 ⟨rfl, hb⟩; replace BKz1 := aB BKz1 hb; replace HB := aS HB hb; clear hb))
  go_meet
  case rel => exact ⟨_, (!t105), rS, H', ⟨by first | omega | exact Nat.le_refl _⟩, ⟨(bX BKz1.out)⟩, ⟨(hX HB.out)⟩⟩
 case rest =>
  clear HC2
  obtain ⟨kq, x34_1, rfl, HA, HJy1, BKz1, HB⟩ := hcut
  cases kq with
  | zero => exact absurd HA.out (by simp [spec_MachineOk.j0])
  | succ kj1 =>
   have H := HA.out
   clear HA
   simp only [spec_MachineOk.j0] at H
   cases x34_1
   case true =>
    rw [if_pos rfl] at H
    exact fR
   rw [if_neg nft] at H
   have H' := aM H
   clear H
   go_wp2
   go_loopg [3] kj1 (fun kq v3 w' => ∃ (x3_2 : Int), v3 = .int .i64 x3_2 ∧ Aside0 (spec_MachineOk.l0 kq x3_2 l0_0 l0_1 l0_2 a0_3 l0_4 l0_5 l0_6 a0_7 = some r) ∧ Aside0 (kq ≤ kj1) ∧ Aside0 (w'.heap[gbz1]? = some (.cells #[(.slice A0_0 l0_0.length c0_0), (.slice A0_1 l0_1.length c0_1), (.slice A0_2 l0_2.length c0_2), .int .i64 a0_3, (.slice A0_4 l0_4.length c0_4), (.slice A0_5 l0_5.length c0_5), (.slice A0_6 l0_6.length c0_6), .int .i64 a0_7] 43 (0, 0))) ∧ Aside0 (Below w.heap.size w w'))
   case atStart => exact ⟨(0), rS, H', ⟨Nat.le_refl _⟩, ⟨(bX BKz1.out)⟩, ⟨(hX HB.out)⟩⟩
   case round =>
    clear H'
    obtain ⟨x3_2, rfl, HA, HKw1, BKz1, HB⟩ := hrel
    cases gk with
    | zero => exact absurd HA.out (by simp [spec_MachineOk.l0])
    | succ k2 =>
     have H := HA.out
     clear HA
     simp only [spec_MachineOk.l0] at H
     revert H; refine iN (fun c31b0 H => ?_) (fun c31b0 H => ?_)
     ·obtain rfl := sI H
      have hczv1 := cZ8 BKz1.out
      exact fS
     replace H := ifQ H; obtain ⟨c32b0, H⟩ := H
     replace H := bE H; obtain ⟨t107, A33, H⟩ := H
     have hczv1 := cZ8 BKz1.out
     try go_wp2
     obtain ⟨adv1, Av1, cv1, Av2, cv2, Av3, cv3, ev1, pv1, qv1, hxv1, HCv1, HRv1, HCv2, HRv2, HCv3, HRv3⟩ := at_T97c HR0_2 HB x3_2
     cases ev1
     have hcb0_ := cV8 BKz1.out
     refine sR0 16 spec_MachineOk.tab6 spec_MachineOk.bits6 (fun HT_ HW_ hHeld => ?_)
     refine zA 0 ?_
     refine zA 2 ?_
     refine zA 5 ?_
     refine tA 1 ?_
     refine zA 3 ?_
     refine tA 4 ?_
     refine tA 6 ?_
     refine zA 7 ?_
     cases t107
     case false =>
      rw [if_neg nft] at H
      obtain rfl := sI H
      refine eB 8 Tryz.func95 (spec_ThreadOk.calls k2 _ _ ((rd_T97 l0_2 x3_2).f0) ((rd_T97 l0_2 x3_2).f1) ((rd_T97 l0_2 x3_2).f2) _ _ ((rd_T97 l0_2 x3_2).f3) _ _ ((rd_T97 l0_2 x3_2).f4) (l0_2.length : Int) false _ (cC HRv1.out HB.out) HCv1.out (cC HRv2.out HB.out) HCv2.out (cC HRv3.out HB.out) HCv3.out A33.out) (fun wv2 hb hHeld => ?_)
      replace BKz1 := aB BKz1 hb
      replace HB := aS HB hb
      (try clear hb)
      refine zA 9 ?_
      refine zA 10 ?_
      refine uA 11 ?_
      refine uA 12 ?_
      refine uA 13 ?_
      refine uA 14 ?_
      refine zA 15 ?_
      refine dA ?_
      try go_wp2
      go_ret
      exact ⟨rE, (hX HB.out)⟩
     rw [if_pos rfl] at H
     replace H := bE H; obtain ⟨t108, A35, H⟩ := H
     refine eB 8 Tryz.func95 (spec_ThreadOk.calls k2 _ _ ((rd_T97 l0_2 x3_2).f0) ((rd_T97 l0_2 x3_2).f1) ((rd_T97 l0_2 x3_2).f2) _ _ ((rd_T97 l0_2 x3_2).f3) _ _ ((rd_T97 l0_2 x3_2).f4) (l0_2.length : Int) true _ (cC HRv1.out HB.out) HCv1.out (cC HRv2.out HB.out) HCv2.out (cC HRv3.out HB.out) HCv3.out A33.out) (fun wv2 hb hHeld => ?_)
     replace BKz1 := aB BKz1 hb
     replace HB := aS HB hb
     (try clear hb)
     refine zA 9 ?_
     refine zA 10 ?_
     refine zA 12 ?_
     refine tA 11 ?_
     cases t108
     case false =>
      rw [if_neg nft] at H
      obtain rfl := sI H
      refine eB 13 Tryz.func96 (spec_l9Thread.calls k2 _ _ l0_0 _ _ l0_1 _ _ l0_2 a0_3 _ _ l0_4 _ _ l0_5 _ _ l0_6 a0_7 x3_2 false _ (cC HR0_0.out HB.out) HC0_0.out (cC HR0_1.out HB.out) HC0_1.out (cC HR0_2.out HB.out) HC0_2.out (cC HR0_4.out HB.out) HC0_4.out (cC HR0_5.out HB.out) HC0_5.out (cC HR0_6.out HB.out) HC0_6.out A35.out) (fun wv3 hb hHeld => ?_)
      replace BKz1 := aB BKz1 hb
      replace HB := aS HB hb
      (try clear hb)
      refine zA 14 ?_
      refine zA 15 ?_
      refine dA ?_
      try go_wp2
      go_ret
      exact ⟨rE, (hX HB.out)⟩
     rw [if_pos rfl] at H
     have H' := aM H
     clear H
     refine eB 13 Tryz.func96 (spec_l9Thread.calls k2 _ _ l0_0 _ _ l0_1 _ _ l0_2 a0_3 _ _ l0_4 _ _ l0_5 _ _ l0_6 a0_7 x3_2 true _ (cC HR0_0.out HB.out) HC0_0.out (cC HR0_1.out HB.out) HC0_1.out (cC HR0_2.out HB.out) HC0_2.out (cC HR0_4.out HB.out) HC0_4.out (cC HR0_5.out HB.out) HC0_5.out (cC HR0_6.out HB.out) HC0_6.out A35.out) (fun wv3 hb hHeld => ?_)
     replace BKz1 := aB BKz1 hb
     replace HB := aS HB hb
     (try clear hb)
     refine zA 14 ?_
     refine zA 15 ?_
     refine dA ?_
     try go_wp2
     go_roundg k2
     case measure => have := HJy1.out; have := HKw1.out; omega
     case rel => exact ⟨(wrap64 (x3_2 + 1)), rS, H', ⟨by have := HJy1.out; have := HKw1.out; omega⟩, ⟨(bX BKz1.out)⟩, ⟨(hX HB.out)⟩⟩
def spec_l3Copy.f (l0_0 : List Int) (a0_1 : Int) : Option (List Int × Int) := (some (([] : List Int) : List Int)).bind fun y103 => (if y103.length + l0_0.length < 17592186044416 then (some ((y103 ++ l0_0), a0_1)) else (none))
def spec_l3Copy.T1 : Bool × List (List Nat × List Nat) := (true, [([], []), ([], []), ([1], [1]), ([0, 2], [0, 2]), ([], []), ([4], [4]), ([3, 5], [3, 5]), ([6, 3, 0, 1, 2, 3, 4, 5, 6], [6])])
def spec_l3Copy.B1 : List Nat := [0, 0, 2, 7, 0, 16, 63, 127]
theorem spec_l3Copy.tab1 : rtab .any (opsOf Tryz.f64 1) = spec_l3Copy.T1 := by kernel_rfl
theorem spec_l3Copy.bits1 : waitsOk spec_l3Copy.T1.2 spec_l3Copy.B1 = true := by kernel_rfl
theorem spec_l3Copy.calls (A0_0 : Option Addr) (c0_0 : Nat) (l0_0 : List Int) (a0_1 : Int) (r1 : List Int) (r2 : Int) (w : World) (hr0_0 : Kd.C (Kd.int .i64) w A0_0 l0_0.length l0_0) (hc0_0 : l0_0.length ≤ c0_0) (h : spec_l3Copy.f l0_0 a0_1 = some (r1, r2)) :
  Calls Tryz.prog 64 #[.agg #[.slice A0_0 l0_0.length c0_0, .int .i64 a0_1]] w fun e w' => ∃ v0_ : Value, e = .returned (.agg #[v0_, .int .i64 r2]) ∧ Kd.R (Kd.int .i64) 3 w' w.heap.size (fun _ => True) v0_ r1 ∧ Below w.heap.size w w' := by
 have hu41 := Tryz.underlying41
 have HR0_0 := aM hr0_0
 have HC0_0 := aM hc0_0
 clear hr0_0 hc0_0
 have HB := aM (Below.refl w.heap.size w)
 have H := h
 unfold spec_l3Copy.f at H
 clear h
 replace H := sE H; obtain ⟨y103, Ny103, H⟩ := H
 replace H := ifP H; obtain ⟨c2, H⟩ := H
 have LMc2 := aM c2
 clear c2
 obtain ⟨y106, hy106⟩ : ∃ y_ : List Int, y_ = (y103 ++ l0_0) := ⟨_, rfl⟩
 replace H : (some (y106, a0_1)) = some (r1, r2) := yH H hy106
 have Ny106 := aM hy106
 clear hy106
 simp only [Option.some.injEq, Prod.mk.injEq] at H
 obtain ⟨rfl, rfl⟩ := H
 go_enter Tryz.func64, Tryz.ntmps64
 try go_wp2_with (first | (refine boxE 1 #[.slice A0_0 l0_0.length c0_0, .int .i64 a0_1] 41 ?_; intro gbz1 hg wz1 hbox hb; have BKz1 := aM (hbox); have GWz1 := aG hg HB; have GEz1 := aG hg HB; replace HB := aS HB hb; clear hb hbox hg) | (refine boxE 2 #[.slice none 0 0, .int .i64 0] 41 ?_; intro gbz2 hg wz2 hbox hb; have BKz2 := aM (hbox); have GWz2 := aG hg HB; have GEz2 := aG hg HB; have NBz1 := aL hg BKz1; have NBz2 := aR hg BKz1; replace BKz1 := aB BKz1 hb; replace HB := aS HB hb; clear hb hbox hg))
 replace BKz1 := aM (blk_drew BKz1.out)
 replace BKz2 := aM (blk_drew BKz2.out)
 replace HB := aM (below_drew1 HB.out)
 refine start_ (n := 8) (S := fun w' => w'.cell? ⟨gbz1, 0, none⟩ = some (.slice A0_0 l0_0.length c0_0) ∧ w'.cell? ⟨gbz1, 1, none⟩ = some (.int .i64 a0_1)) (ds := []) (bm 8 0) (by kernel_rfl) rfl (by kernel_rfl) ⟨cK BKz1.out 0, cK BKz1.out 1⟩ (fun hHeld => ?_); refine with_tabW spec_l3Copy.tab1 spec_l3Copy.bits1 (fun HT_ HW_ => ?_)
 generalize wz2.drew = wz3 at BKz1 BKz2 HB hHeld ⊢
 refine pZ 1 4 (bm 8 2) HT_.out ?_
 refine pZ 4 7 (bm 8 18) HT_.out ?_
 refine tZ 2 5 (bm 8 22) HT_.out HW_.out hHeld ?_
 refine tZ 5 8 (bm 8 54) HT_.out HW_.out hHeld ?_
 refine oZ 0 (some 3) (bm 8 55) HT_.out (fun K hK => ?_)
 refine Kd.R_lit_step (Kd.int .i64) _ 3 ?hg (N := 3) ?hd (xs := ([] : List Int)) (inner := []) (ok := fun _ => True) (okp := fun _ => True) ?hr ?hp (fun _ hk => hk) trivial (Below.refl _ _) (Nat.le_refl _) (by simp) ?_; (case hd => rfl); (case hg => rfl); (case hr => first | (go_simp; done) | (go_simp; rfl)); (case hp => exact (Reps.none _ _))
 intro vz1 wz4 hoz1 hb hg_ hnew_
 clear hg_ hnew_
 (first | rw [← Ny103.out] at hoz1 | (simp only [Int.reduceToNat] at hoz1; rw [← Ny103.out] at hoz1))
 have HOz1 := aM (Kd.R_lower hoz1 (below_size (hX HB.out)))
 replace BKz1 := aB BKz1 hb
 replace BKz2 := aB BKz2 hb
 replace HB := aS HB hb
 clear hb hoz1
 refine hK.out _ _ ⟨cK BKz1.out 0, cK BKz1.out 1⟩ (fun hHeld => ?_)
 clear hK K
 refine nZ 3 ?_
 refine oZ 3 (some 6) (bm 8 63) HT_.out (fun K hK => ?_)
 refine Kd.R_append_rows_step (Kd.int .i64) (w0 := w) w.heap.size (by rfl) (.tmp 3) (.tmp 5) 28 3 (.int .i64 0) 8 rfl Tryz.underlying28 info3 rfl (by decide) (by omega) vz1 y103 l0_0 _ _ _ (fun _ => True) (fun _ => False) rfl rfl ?aO ?aR (fun _ _ h => h) (fun _ h => h.elim) ?aF ?aB ?aS ?aL ?_
 (case aR => repeat (first | exact (Kd.C_below HR0_0.out HB.out) | (with_reducible refine Kd.C_alloc ?_ _) | (with_reducible refine Kd.C_drewN ?_ _) | (with_reducible refine Kd.C_drew ?_)))
 (case aB => exact (hX HB.out))
 (case aF => exact (fun _ _ => trivial))
 (case aO => exact (rX HOz1.out))
 (case aS => exact (below_size (hX HB.out)))
 (case aL => have := LMc2.out; omega)
 intro vz2 wz5 ho hb hg hat
 rw [← Ny106.out] at ho
 have HOz2 := aM (ho)
 replace BKz1 := aM (blk_grown (g := gbz1) (o := .cells #[.slice A0_0 l0_0.length c0_0, .int .i64 a0_1] 41 (0, 0)) (bX BKz1.out) hg (Kd.R_ne HOz1.out BKz1.out (by decide)))
 replace BKz2 := aM (blk_grown (g := gbz2) (o := .cells #[.slice none 0 0, .int .i64 0] 41 (0, 0)) (bX BKz2.out) hg (Kd.R_ne HOz1.out BKz2.out (by decide)))
 replace HB := aM (hb)
 clear HOz1
 clear ho hb hg hat
 obtain ⟨Aoz1, coz1, eoz1⟩ := Kd.R_slice HOz2.out
 (first | subst eoz1 | (injection eoz1 with f1_ f2_ f3_; have fz1 := f1_.symm; have fz2 := f3_.symm; clear f1_ f2_ f3_; subst fz1; subst fz2))
 refine hK.out _ _ ⟨cK BKz1.out 0, cK BKz1.out 1⟩ (fun hHeld => ?_)
 clear hK K
 refine nZ 6 ?_
 refine pZ 6 9 (bm 8 127) HT_.out ?_
 refine oZ 7 none (bm 8 255) HT_.out (fun K hK => ?_)
 have hsz1 : wz5.cell? ⟨gbz2, 0, none⟩ = some (.slice none 0 0) := (blk_cell BKz2.out 0).trans rfl
 have hfsz1 := blk_frozen BKz2.out 0
 have hnsz1 := NBz1.out
 have hmsz1 := NBz2.out
 have hsz2 : wz5.cell? ⟨gbz2, 1, none⟩ = some (.int .i64 0) := (blk_cell BKz2.out 1).trans rfl
 have hfsz2 := blk_frozen BKz2.out 1
 have hnsz2 := NBz1.out
 have hmsz2 := NBz2.out
 refine skip_ (w1 := ?_) (by rfl) rfl ?_ ?_
 rotate_left
 ·go_simp
  rfl
 refine hK.out _ _ ⟨(fA NBz1.out hHeld.1), (fA NBz1.out hHeld.2)⟩ (fun hHeld => ?_)
 clear hK K
 refine done_ (done_of HT_.out (by kernel_rfl)) ?_
 try go_wp2
 refine bodyPost_ret (results_cell_row rfl _ _ gbz2 41 #[.slice Aoz1 y106.length coz1, .int .i64 a0_1] (0, 0) _ rfl (bP BKz2.out) Tryz.underlying41 rfl (by kernel_rfl)) rfl ?_
 exact ⟨_, rE, (rT (h := by exact Kd.R_mono (Kd.R_far (p := ⟨gbz2, 1, none⟩) (Kd.R_far (p := ⟨gbz2, 0, none⟩) (Kd.R_types HOz2.out BKz2.out (by decide)) (fun _ hk => hk.2) (.slice Aoz1 y106.length coz1)) (fun _ hk => hk.2) (.int .i64 a0_1)) (fun _ hk => trivial))), (hX HB.out)⟩
def spec_l4Fails.j0 : Nat → Bool → Bool → Int → Bool → List Int → Int → Int → Int → Int → Option (Bool)
 | 0, _, _, _, _, _, _, _, _, _ => none
 | k + 1, x7, x8, x48, x49, x102000, x102001, x103000, x103001, x103002 => if x49 = true then (if 0 ≤ x103001 then (if x103001 < (x102000.length : Int) then (some ((rd x102000 x103001) == 0)) else (none)) else (none)) else (if x48 = 5 then (some (!x7)) else (if x48 = 10 then (if x8 = true then (some (!x7)) else (some false)) else (some false)))
def spec_l4Fails.f (k : Nat) (l0_0 : List Int) (a0_1 : Int) (a1_0 : Int) (a1_1 : Int) (a1_2 : Int) (a2 : Int) : Option (Bool) := (spec_KeyOf.f k l0_0 a0_1 a1_2).bind fun t103 => (if a2 = 1 then (if a1_0 = 1 then (if 0 ≤ a1_1 then (if a1_1 < (l0_0.length : Int) then (some ((rd l0_0 a1_1) != 0)) else (none)) else (none)) else (some false)) else (if a2 = 2 then (if a1_0 = 1 then (some (decide (t103 ≥ 0))) else (if a1_0 = 2 then (some (decide (t103 ≥ 0))) else (some false))) else (if a2 = 3 then (if a1_0 = 2 then (spec_l4Fails.j0 k (decide (t103 ≥ 0)) (a0_1 == 5) a1_0 (a1_0 == 2) l0_0 a0_1 a1_0 a1_1 a1_2) else (if a1_0 = 3 then (spec_l4Fails.j0 k (decide (t103 ≥ 0)) (a0_1 == 5) a1_0 (a1_0 == 3) l0_0 a0_1 a1_0 a1_1 a1_2) else (spec_l4Fails.j0 k (decide (t103 ≥ 0)) (a0_1 == 5) a1_0 (a1_0 == 4) l0_0 a0_1 a1_0 a1_1 a1_2))) else (if a2 = 4 then (if a1_0 = 8 then (some (a0_1 != 0)) else (if a1_0 = 9 then (if a0_1 = 0 then (some true) else (some (a0_1 == 5))) else (if a1_0 = 10 then (some (!(a0_1 == 5))) else (some false)))) else (some false)))))
theorem spec_l4Fails.calls (k : Nat) (A0_0 : Option Addr) (c0_0 : Nat) (l0_0 : List Int) (a0_1 : Int) (a1_0 : Int) (a1_1 : Int) (a1_2 : Int) (a2 : Int) (r : Bool) (w : World) (hr0_0 : Kd.C (Kd.int .i64) w A0_0 l0_0.length l0_0) (hc0_0 : l0_0.length ≤ c0_0) (h : spec_l4Fails.f k l0_0 a0_1 a1_0 a1_1 a1_2 a2 = some r) :
  Calls Tryz.prog 139 #[.agg #[.slice A0_0 l0_0.length c0_0, .int .i64 a0_1], .agg #[.int .i64 a1_0, .int .i64 a1_1, .int .i64 a1_2], .int .i64 a2] w fun e w' => e = .returned (.bool r) ∧ Below w.heap.size w w' := by
 have hu41 := Tryz.underlying41
 have hu69 := Tryz.underlying69
 have HR0_0 := aM hr0_0
 have HC0_0 := aM hc0_0
 clear hr0_0 hc0_0
 have HB := aM (Below.refl w.heap.size w)
 have H := h
 unfold spec_l4Fails.f at H
 clear h
 replace H := bE H; obtain ⟨t103, A4, H⟩ := H
 go_enter Tryz.func139, Tryz.ntmps139
 revert H; refine eP (fun c5b0 c5b1 H => ?_) (fun c5b0 c5b1 H => ?_)
 ·go_wp2_with (first | (refine boxE 3 #[.slice A0_0 l0_0.length c0_0, .int .i64 a0_1] 41 ?_; intro gbz1 hg wz1 hbox hb; have BKz1 := aM (hbox); have GWz1 := aG hg HB; have GEz1 := aG hg HB; replace HB := aS HB hb; clear hb hbox hg) | (refine boxE 4 #[.int .i64 a1_0, .int .i64 a1_1, .int .i64 a1_2] 69 ?_; intro gbz2 hg wz2 hbox hb; have BKz2 := aM (hbox); have GWz2 := aG hg HB; have GEz2 := aG hg HB; have NBz1 := aL hg BKz1; have NBz2 := aR hg BKz1; replace BKz1 := aB BKz1 hb; replace HB := aS HB hb; clear hb hbox hg; have hnbz1 := NBz1.out; have hncz1 := NBz2.out; have hczz1 := cZ2 BKz1.out; have hczz3 := cZ3 BKz2.out; refine Stop.out ?_))
  refine ⟨?_⟩
  revert H; refine eN (fun c6b0 c6b1 H => ?_) (fun c6b0 c6b1 H => ?_)
  ·obtain rfl := sI H
   go_wp2_with (refine gB 160 12 Tryz.func160 (spec_KeyOf.calls _ _ _ _ _ _ _ _ (cC HR0_0.out HB.out) HC0_0.out A4.out) ?_; intro wz3 hb; replace BKz1 := aB BKz1 hb; replace BKz2 := aB BKz2 hb; replace HB := aS HB hb; clear hb; have hczz6 := cZ2 BKz1.out; have hczz8 := cZ3 BKz2.out)
   go_ret
   exact ⟨rE, (hX HB.out)⟩
  replace H := ifQ H; obtain ⟨c7b0, H⟩ := H
  replace H := ifQ H; obtain ⟨c8b0, H⟩ := H
  obtain rfl := sI H
  go_wp2_with (refine gB 160 12 Tryz.func160 (spec_KeyOf.calls _ _ _ _ _ _ _ _ (cC HR0_0.out HB.out) HC0_0.out A4.out) ?_; intro wz3 hb; replace BKz1 := aB BKz1 hb; replace BKz2 := aB BKz2 hb; replace HB := aS HB hb; clear hb; have hczz6 := cZ2 BKz1.out; have hczz8 := cZ3 BKz2.out; have pz1 : 0 ≤ (a1_1 : Int) := odA; have qz1 : a1_1 < (l0_0.length : Int) := odA; obtain ⟨adz1, ez1, hxz1⟩ := Kd.at_int HR0_0.out a1_1 pz1 qz1; cases ez1; replace hxz1 := bc HB.out hxz1; replace pz1 := eq_true pz1; replace qz1 := eq_true qz1)
  go_ret
  exact ⟨rE, (hX HB.out)⟩
 revert H; refine eP (fun c25b0 c25b1 H => ?_) (fun c25b0 c25b1 H => ?_)
 ·go_wp2_with (first | (refine boxE 3 #[.slice A0_0 l0_0.length c0_0, .int .i64 a0_1] 41 ?_; intro gbz1 hg wz1 hbox hb; have BKz1 := aM (hbox); have GWz1 := aG hg HB; have GEz1 := aG hg HB; replace HB := aS HB hb; clear hb hbox hg) | (refine boxE 4 #[.int .i64 a1_0, .int .i64 a1_1, .int .i64 a1_2] 69 ?_; intro gbz2 hg wz2 hbox hb; have BKz2 := aM (hbox); have GWz2 := aG hg HB; have GEz2 := aG hg HB; have NBz1 := aL hg BKz1; have NBz2 := aR hg BKz1; replace BKz1 := aB BKz1 hb; replace HB := aS HB hb; clear hb hbox hg; have hnbz1 := NBz1.out; have hncz1 := NBz2.out; have hczz1 := cZ2 BKz1.out; have hczz3 := cZ3 BKz2.out) | (refine gB 160 12 Tryz.func160 (spec_KeyOf.calls _ _ _ _ _ _ _ _ (cC HR0_0.out HB.out) HC0_0.out A4.out) ?_; intro wz3 hb; replace BKz1 := aB BKz1 hb; replace BKz2 := aB BKz2 hb; replace HB := aS HB hb; clear hb; have hczz6 := cZ2 BKz1.out; have hczz8 := cZ3 BKz2.out; refine Stop.out ?_))
  refine ⟨?_⟩
  revert H; refine eP (fun c26b0 c26b1 H => ?_) (fun c26b0 c26b1 H => ?_)
  ·obtain rfl := sI H
   exact fS
  revert H; refine eN (fun c35b0 c35b1 H => ?_) (fun c35b0 c35b1 H => ?_)
  ·obtain rfl := sI H
   exact fS
  exact fR
 revert H; refine eN (fun c52b0 c52b1 H => ?_) (fun c52b0 c52b1 H => ?_)
 ·go_wp2_with (first | (refine boxE 3 #[.slice A0_0 l0_0.length c0_0, .int .i64 a0_1] 41 ?_; intro gbz1 hg wz1 hbox hb; have BKz1 := aM (hbox); have GWz1 := aG hg HB; have GEz1 := aG hg HB; replace HB := aS HB hb; clear hb hbox hg) | (refine boxE 4 #[.int .i64 a1_0, .int .i64 a1_1, .int .i64 a1_2] 69 ?_; intro gbz2 hg wz2 hbox hb; have BKz2 := aM (hbox); have GWz2 := aG hg HB; have GEz2 := aG hg HB; have NBz1 := aL hg BKz1; have NBz2 := aR hg BKz1; replace BKz1 := aB BKz1 hb; replace HB := aS HB hb; clear hb hbox hg; have hnbz1 := NBz1.out; have hncz1 := NBz2.out; have hczz1 := cZ2 BKz1.out; have hczz3 := cZ3 BKz2.out; refine Stop.out ?_))
  refine ⟨?_⟩
  revert H; refine eN (fun c73b0 c73b1 H => ?_) (fun c73b0 c73b1 H => ?_)
  ·obtain rfl := sI H
   go_wp2_with (refine gB 160 12 Tryz.func160 (spec_KeyOf.calls _ _ _ _ _ _ _ _ (cC HR0_0.out HB.out) HC0_0.out A4.out) ?_; intro wz3 hb; replace BKz1 := aB BKz1 hb; replace BKz2 := aB BKz2 hb; replace HB := aS HB hb; clear hb; have hczz6 := cZ2 BKz1.out)
   go_ret
   exact ⟨rE, (hX HB.out)⟩
  go_wp2_with (refine gB 160 12 Tryz.func160 (spec_KeyOf.calls _ _ _ _ _ _ _ _ (cC HR0_0.out HB.out) HC0_0.out A4.out) ?_; intro wz3 hb; replace BKz1 := aB BKz1 hb; replace BKz2 := aB BKz2 hb; replace HB := aS HB hb; clear hb; have hczz6 := cZ2 BKz1.out; have hczz8 := cZ3 BKz2.out; refine Stop.out ?_)
  refine ⟨?_⟩
  revert H; refine eP (fun c74b0 c74b1 H => ?_) (fun c74b0 c74b1 H => ?_)
  ·obtain rfl := sI H
   exact fS
  revert H; refine eN (fun c83b0 c83b1 H => ?_) (fun c83b0 c83b1 H => ?_)
  ·revert H; refine eN (fun c101b0 c101b1 H => ?_) (fun c101b0 c101b1 H => ?_)
   ·obtain rfl := sI H
    exact fS
   exact fR
  revert H; refine eN (fun c84b0 c84b1 H => ?_) (fun c84b0 c84b1 H => ?_)
  ·obtain rfl := sI H
   exact fS
  exact fR
 have HC53 := aM H
 clear H
 go_upto_if 49 with (first | ((with_reducible refine gate_dst (N := 3) rfl ?_); refine boxE 3 #[.slice A0_0 l0_0.length c0_0, .int .i64 a0_1] 41 ?_; intro gbz1 hg wz1 hbox hb; have BKz1 := aM (hbox); have GWz1 := aG hg HB; have GEz1 := aG hg HB; replace HB := aS HB hb; clear hb hbox hg) | ((with_reducible refine gate_dst (N := 4) rfl ?_); refine boxE 4 #[.int .i64 a1_0, .int .i64 a1_1, .int .i64 a1_2] 69 ?_; intro gbz2 hg wz2 hbox hb; have BKz2 := aM (hbox); have GWz2 := aG hg HB; have GEz2 := aG hg HB; have NBz1 := aL hg BKz1; have NBz2 := aR hg BKz1; replace BKz1 := aB BKz1 hb; replace HB := aS HB hb; clear hb hbox hg; have hnbz1 := NBz1.out; have hncz1 := NBz2.out; have hczz1 := cZ2 BKz1.out; have hczz3 := cZ3 BKz2.out) | ((with_reducible refine gate_callee (f := 160) rfl ?_); refine gB 160 12 Tryz.func160 (spec_KeyOf.calls _ _ _ _ _ _ _ _ (cC HR0_0.out HB.out) HC0_0.out A4.out) ?_; intro wz3 hb; replace BKz1 := aB BKz1 hb; replace BKz2 := aB BKz2 hb; replace HB := aS HB hb; clear hb; have hczz6 := cZ2 BKz1.out; have hczz8 := cZ3 BKz2.out))
 (try simp only [Act.put, List.setIfInBounds_toArray, List.set_cons_zero, List.set_cons_succ])
 go_cut [49] (fun vz1 wc => ∃ (kq : Nat) (x49_52 : Bool), vz1 = .bool x49_52 ∧ Aside0 (spec_l4Fails.j0 kq (decide (t103 ≥ 0)) (a0_1 == 5) a1_0 x49_52 l0_0 a0_1 a1_0 a1_1 a1_2 = some r) ∧ Aside0 (kq ≤ k) ∧ Aside0 (wc.heap[gbz1]? = some (.cells #[(.slice A0_0 l0_0.length c0_0), .int .i64 a0_1] 41 (0, 0))) ∧ Aside0 (wc.heap[gbz2]? = some (.cells #[.int .i64 a1_0, .int .i64 a1_1, .int .i64 a1_2] 69 (0, 0))) ∧ Aside0 (Below w.heap.size w wc))
 case first =>
  have H := HC53.out
  clear HC53
  revert H; refine eP (fun c62b0 c62b1 H => ?_) (fun c62b0 c62b1 H => ?_)
  ·(first | rw [c62b0] | (simp only [i64_w, i32_w]; rw [c62b0]) | skip)
   have H' := aM H
   clear H
   go_wp2
   go_meet
   case rel => exact ⟨_, ((a1_0 == 2)), rS, H', ⟨by first | omega | exact Nat.le_refl _⟩, ⟨(bX BKz1.out)⟩, ⟨(bX BKz2.out)⟩, ⟨(hX HB.out)⟩⟩
  (first | rw [c62b0] | (simp only [i64_w, i32_w]; rw [c62b0]) | skip)
  revert H; refine eN (fun c63b0 c63b1 H => ?_) (fun c63b0 c63b1 H => ?_)
  ·have H' := aM H
   clear H
   go_wp2
   go_meet
   case rel => exact ⟨_, ((a1_0 == 4)), rS, H', ⟨by first | omega | exact Nat.le_refl _⟩, ⟨(bX BKz1.out)⟩, ⟨(bX BKz2.out)⟩, ⟨(hX HB.out)⟩⟩
  have H' := aM H
  clear H
  go_wp2
  go_meet
  case rel => exact ⟨_, ((a1_0 == 3)), rS, H', ⟨by first | omega | exact Nat.le_refl _⟩, ⟨(bX BKz1.out)⟩, ⟨(bX BKz2.out)⟩, ⟨(hX HB.out)⟩⟩
 case rest =>
  clear HC53
  try clear c5b0
  try clear c5b1
  try clear c25b0
  try clear c25b1
  try clear c52b0
  try clear c52b1
  try clear hczz1
  try clear hczz3
  try clear hczz6
  try clear hczz8
  obtain ⟨kq, x49_52, rfl, HA, HJy1, BKz1, BKz2, HB⟩ := hcut
  cases kq with
  | zero => exact absurd HA.out (by simp [spec_l4Fails.j0])
  | succ kj52 =>
   have H := HA.out
   clear HA
   simp only [spec_l4Fails.j0] at H
   cases x49_52
   case true =>
    rw [if_pos rfl] at H
    replace H := ifQ H; obtain ⟨c65b0, H⟩ := H
    replace H := ifQ H; obtain ⟨c66b0, H⟩ := H
    obtain rfl := sI H
    have hnbx1 := NBz1.out
    have hncx1 := NBz2.out
    have hczx1 := cZ2 BKz1.out
    have hczx3 := cZ3 BKz2.out
    obtain ⟨adx1, ex1, px1, qx1, hxx1⟩ := at_ic HR0_0 HB a1_1
    cases ex1
    exact fS
   rw [if_neg nft] at H
   revert H; refine eP (fun c70b0 c70b1 H => ?_) (fun c70b0 c70b1 H => ?_)
   ·obtain rfl := sI H
    exact fS
   revert H; refine eN (fun c71b0 c71b1 H => ?_) (fun c71b0 c71b1 H => ?_)
   ·obtain rfl := sI H
    exact fS
   by_cases c72 : (a0_1 == 5) = true
   ·rw [if_pos c72] at H
    have c72b0 : (a0_1 == 5) = true := c72
    (try (have c72b1 : decide (a0_1 = 5) = true := by simpa using c72))
    (try (have c72b2 : (a0_1 == 5) = true := by simpa using c72))
    clear c72
    exact fR
   rw [if_neg c72] at H
   have c72b0 : (a0_1 == 5) = false := by simpa using c72
   (try (have c72b1 : decide (a0_1 = 5) = false := by simpa using c72))
   (try (have c72b2 : (a0_1 == 5) = false := by simpa using c72))
   (try (have c72b3 : ¬ (a0_1 = 5) := by simpa using c72))
   clear c72
   exact fR
def spec_ClassOf.f (a0 : Int) : Option (Int) := (spec_ValOk.f a0).bind fun t101 => (if t101 = true then (some (Int.tmod a0 3)) else (some (-1)))
theorem spec_ClassOf.calls (a0 : Int) (r : Int) (w : World) (h : spec_ClassOf.f a0 = some r) :
  Calls Tryz.prog 202 #[.int .i64 a0] w fun e w' => e = .returned (.int .i64 r) ∧ Drawn0 w w' := by
 have H := h
 unfold spec_ClassOf.f at H
 clear h
 replace H := bE H; obtain ⟨t101, A2, H⟩ := H
 go_enter Tryz.func202, Tryz.ntmps202
 cases t101
 case true =>
  rw [if_pos rfl] at H
  obtain rfl := sI H
  go_wp2_with (refine gD 159 4 Tryz.func159 (spec_ValOk.calls _ _ _ A2.out) ?_; intro nd)
  go_ret
  exact ⟨by first | rfl | (simp; done) | (simp [*]; done), dX⟩
 rw [if_neg nft] at H
 obtain rfl := sI H
 go_wp2_with (refine gD 159 4 Tryz.func159 (spec_ValOk.calls _ _ _ A2.out) ?_; intro nd)
 go_ret
 exact ⟨by first | rfl | (simp; done) | (simp [*]; done), dX⟩
def spec_HowMany.l0 : Nat → Int → Int → Int → List Int → Int → Option (Int)
 | 0, _, _, _, _, _ => none
 | k + 1, x1, x5, x6, x102000, x102001 => if x6 < (x102000.length : Int) then (if 0 ≤ x6 then ((spec_ValOk.f (rd x102000 x6)).bind fun t103 => (if t103 = true then ((spec_ClassOf.f (rd x102000 x6)).bind fun t105 => ((spec_l1Bit.f (t105 == x1)).bind fun t106 => (spec_HowMany.l0 k x1 (wrap64 (x5 + t106)) (wrap64 (x6 + 1)) x102000 x102001))) else ((spec_l1Bit.f false).bind fun t107 => (spec_HowMany.l0 k x1 (wrap64 (x5 + t107)) (wrap64 (x6 + 1)) x102000 x102001)))) else (none)) else (some x5)
def spec_HowMany.f (k : Nat) (l0_0 : List Int) (a0_1 : Int) (a1 : Int) : Option (Int) := spec_HowMany.l0 k a1 0 0 l0_0 a0_1
theorem spec_HowMany.calls (k : Nat) (A0_0 : Option Addr) (c0_0 : Nat) (l0_0 : List Int) (a0_1 : Int) (a1 : Int) (r : Int) (w : World) (hr0_0 : Kd.C (Kd.int .i64) w A0_0 l0_0.length l0_0) (hc0_0 : l0_0.length ≤ c0_0) (h : spec_HowMany.f k l0_0 a0_1 a1 = some r) :
  Calls Tryz.prog 146 #[.agg #[.slice A0_0 l0_0.length c0_0, .int .i64 a0_1], .int .i64 a1] w fun e w' => e = .returned (.int .i64 r) ∧ Below w.heap.size w w' := by
 have hu41 := Tryz.underlying41
 have HR0_0 := aM hr0_0
 have HC0_0 := aM hc0_0
 clear hr0_0 hc0_0
 have HB := aM (Below.refl w.heap.size w)
 have H := h
 unfold spec_HowMany.f at H
 clear h
 have H' := aM H
 clear H
 go_enter Tryz.func146, Tryz.ntmps146
 go_wp2_with (refine boxE 2 #[.slice A0_0 l0_0.length c0_0, .int .i64 a0_1] 41 ?_; intro gbz1 hg wz1 hbox hb; have BKz1 := aM (hbox); have GWz1 := aG hg HB; have GEz1 := aG hg HB; replace HB := aS HB hb; clear hb hbox hg)
 go_loopg [5, 6] k (fun kq v5 v6 w' => ∃ (x5_1 : Int) (x6_1 : Int), v5 = .int .i64 x5_1 ∧ v6 = .int .i64 x6_1 ∧ Aside0 (spec_HowMany.l0 kq a1 x5_1 x6_1 l0_0 a0_1 = some r) ∧ Aside0 (kq ≤ k) ∧ Aside0 (w'.heap[gbz1]? = some (.cells #[(.slice A0_0 l0_0.length c0_0), .int .i64 a0_1] 41 (0, 0))) ∧ Aside0 (Below w.heap.size w w'))
 case atStart => exact ⟨(0), (0), rS, rS, H', ⟨Nat.le_refl _⟩, ⟨(bX BKz1.out)⟩, ⟨(hX HB.out)⟩⟩
 case round =>
  clear H'
  obtain ⟨x5_1, x6_1, rfl, rfl, HA, HKy1, BKz1, HB⟩ := hrel
  cases gk with
  | zero => exact absurd HA.out (by simp [spec_HowMany.l0])
  | succ k1 =>
   have H := HA.out
   clear HA
   simp only [spec_HowMany.l0] at H
   revert H; refine iN (fun c4b0 H => ?_) (fun c4b0 H => ?_)
   ·obtain rfl := sI H
    have hczx1 := cZ2 BKz1.out
    exact fS
   replace H := ifQ H; obtain ⟨c5b0, H⟩ := H
   replace H := bE H; obtain ⟨t103, A6, H⟩ := H
   cases t103
   case false =>
    rw [if_neg nft] at H
    replace H := bE H; obtain ⟨t107, A11, H⟩ := H
    have H' := aM H
    clear H
    have hczx1 := cZ2 BKz1.out
    obtain ⟨adx1, ex1, px1, qx1, hxx1⟩ := at_ic HR0_0 HB x6_1
    cases ex1
    go_wp2_with (first | (refine gD 159 20 Tryz.func159 (spec_ValOk.calls _ _ _ A6.out) ?_; intro nd) | (refine gD 162 31 Tryz.func162 (spec_l1Bit.calls _ _ _ A11.out) ?_; intro nd))
    go_roundg k1
    case measure => have := HKy1.out; omega
    case rel => exact ⟨(wrap64 (x5_1 + t107)), (wrap64 (x6_1 + 1)), rS, rS, H', ⟨by have := HKy1.out; omega⟩, ⟨(bX BKz1.out)⟩, ⟨(hX HB.out)⟩⟩
   rw [if_pos rfl] at H
   replace H := bE H; obtain ⟨t105, A8, H⟩ := H
   replace H := bE H; obtain ⟨t106, A9, H⟩ := H
   have H' := aM H
   clear H
   have hczx1 := cZ2 BKz1.out
   obtain ⟨adx1, ex1, px1, qx1, hxx1⟩ := at_ic HR0_0 HB x6_1
   cases ex1
   go_wp2_with (first | (refine gD 159 20 Tryz.func159 (spec_ValOk.calls _ _ _ A6.out) ?_; intro nd; have px2 : 0 ≤ (x6_1 : Int) := odA; have qx2 : x6_1 < (l0_0.length : Int) := odA; obtain ⟨adx2, ex2, hxx2⟩ := Kd.at_int HR0_0.out x6_1 px2 qx2; obtain rfl : adx1 = adx2 := (by injection ex2); replace hxx2 := bc HB.out hxx2; replace px2 := eq_true px2; replace qx2 := eq_true qx2) | (go_at_call 202; (with_reducible refine (spec_ClassOf.calls _ _ _ A8.out).mono ?_); rintro e w' ⟨rfl, ⟨nd, rfl⟩⟩) | (refine gD 162 31 Tryz.func162 (spec_l1Bit.calls _ _ _ A9.out) ?_; intro nd))
   go_roundg k1
   case measure => have := HKy1.out; omega
   case rel => exact ⟨(wrap64 (x5_1 + t106)), (wrap64 (x6_1 + 1)), rS, rS, H', ⟨by have := HKy1.out; omega⟩, ⟨(bX BKz1.out)⟩, ⟨(hX HB.out)⟩⟩
end Go.Proofs.YtmljebgideecjaaGreat.P2
