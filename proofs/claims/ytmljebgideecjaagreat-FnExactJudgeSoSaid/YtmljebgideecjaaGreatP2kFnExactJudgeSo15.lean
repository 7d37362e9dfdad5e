/- A part of the proof of the law FnExactJudgeSo: texts of this seat, merged (words, printed functions of the program, plain lemmas). Conditions: none of its own. -/
import Derived.Test.YtmljebgideecjaaGreatP2kFnExactJudgeSo1
import Derived.Test.YtmljebgideecjaaGreatP2kFnExactJudgeSo4
import Derived.Test.YtmljebgideecjaaGreatP2kFnExactJudgeSo5
import Derived.Test.YtmljebgideecjaaGreatP2kFnExactJudgeSo6
import Derived.Test.YtmljebgideecjaaGreatP2kFnExactJudgeSo12
import Derived.Test.YtmljebgideecjaaGreatP2kFnExactJudgeSo14
set_option linter.unusedSimpArgs false
set_option linter.unusedVariables false
set_option maxHeartbeats 8000000
set_option maxRecDepth 100000
namespace Go.Proofs.YtmljebgideecjaaGreat.P2
open Go.Proofs.YtmljebgideecjaaGreatZ Go.RowKit Go.Proofs.YtmljebgideecjaaGreatW.PrintWords Go.Proofs.YtmljebgideecjaaGreatW.PrintLast Go.Proofs.YtmljebgideecjaaGreatW.PrintMore
attribute [local go_sem] max2_int min2_int max_two min_two max_three min_three max_four min_four   -- for this text's walks alone
mutual
def spec_ThreadOk.j0 : Nat → Int → Bool → List (S69) → Int → Bool → List (S172) → List (S174) → Option (Bool)
 | 0, _, _, _, _, _, _, _ => none
 | k + 1, x1, x60, x102000, x102001, x102002, x102003, x102004 => if x60 = true then (some false) else (spec_ThreadOk.l0 k x1 0 x102000 x102001 x102002 x102003 x102004)
def spec_ThreadOk.l0 : Nat → Int → Int → List (S69) → Int → Bool → List (S172) → List (S174) → Option (Bool)
 | 0, _, _, _, _, _, _, _ => none
 | k + 1, x1, x5, x102000, x102001, x102002, x102003, x102004 => if x5 < (x102000.length : Int) then (if 0 ≤ x5 then ((spec_OpOk.f k ((rd_T69 x102000 x5).f0) ((rd_T69 x102000 x5).f1) ((rd_T69 x102000 x5).f2)).bind fun t104 => (if t104 = true then (spec_ThreadOk.l0 k x1 (wrap64 (x5 + 1)) x102000 x102001 x102002 x102003 x102004) else (some false))) else (none)) else (spec_ThreadOk.l1 k x1 0 x102000 x102001 x102002 x102003 x102004)
def spec_ThreadOk.l1 : Nat → Int → Int → List (S69) → Int → Bool → List (S172) → List (S174) → Option (Bool)
 | 0, _, _, _, _, _, _, _ => none
 | k + 1, x1, x6, x102000, x102001, x102002, x102003, x102004 => if x6 < (x102003.length : Int) then (if 0 ≤ x6 then ((spec_l1In.f ((rd_T172 x102003 x6).f0) 0 19).bind fun t106 => (if t106 = true then ((spec_l1In.f ((rd_T172 x102003 x6).f1) 0 1000).bind fun t108 => (if t108 = true then (spec_ThreadOk.l1 k x1 (wrap64 (x6 + 1)) x102000 x102001 x102002 x102003 x102004) else (some false))) else (some false))) else (none)) else (spec_ThreadOk.l2 k x1 0 x102000 x102001 x102002 x102003 x102004)
def spec_ThreadOk.l2 : Nat → Int → Int → List (S69) → Int → Bool → List (S172) → List (S174) → Option (Bool)
 | 0, _, _, _, _, _, _, _ => none
 | k + 1, x1, x7, x102000, x102001, x102002, x102003, x102004 => if x7 < (x102004.length : Int) then (if 0 ≤ x7 then (if ((rd_T174 x102004 x7).f0) < 0 then (some false) else (if ((rd_T174 x102004 x7).f0) ≥ x1 then (some false) else ((spec_l1In.f ((rd_T174 x102004 x7).f1) 1 1000000).bind fun t111 => (if t111 = true then ((spec_l1In.f ((rd_T174 x102004 x7).f2) 0 20).bind fun t112 => (if t112 = true then ((spec_l1In.f ((rd_T174 x102004 x7).f3) 0 20).bind fun t113 => (if t113 = true then (spec_ThreadOk.l2 k x1 (wrap64 (x7 + 1)) x102000 x102001 x102002 x102003 x102004) else (some false))) else (some false))) else (some false))))) else (none)) else (some true)
end
def spec_ThreadOk.f (k : Nat) (l0_0 : List (S69)) (a0_1 : Int) (a0_2 : Bool) (l0_3 : List (S172)) (l0_4 : List (S174)) (a1 : Int) : Option (Bool) := if (l0_0.length : Int) > 8 then (spec_ThreadOk.j0 k a1 true l0_0 a0_1 a0_2 l0_3 l0_4) else ((spec_l1In.f a0_1 0 (l0_0.length : Int)).bind fun t102 => (if t102 = true then (if a0_2 = true then (if a0_1 ≥ (l0_0.length : Int) then (spec_ThreadOk.j0 k a1 true l0_0 a0_1 a0_2 l0_3 l0_4) else (if (l0_3.length : Int) > 12 then (spec_ThreadOk.j0 k a1 true l0_0 a0_1 a0_2 l0_3 l0_4) else (spec_ThreadOk.j0 k a1 (decide ((l0_4.length : Int) > 2)) l0_0 a0_1 a0_2 l0_3 l0_4))) else (if (wrap64 ((l0_3.length : Int) + (l0_4.length : Int))) > 0 then (spec_ThreadOk.j0 k a1 true l0_0 a0_1 a0_2 l0_3 l0_4) else (if (l0_3.length : Int) > 12 then (spec_ThreadOk.j0 k a1 true l0_0 a0_1 a0_2 l0_3 l0_4) else (spec_ThreadOk.j0 k a1 (decide ((l0_4.length : Int) > 2)) l0_0 a0_1 a0_2 l0_3 l0_4)))) else (spec_ThreadOk.j0 k a1 true l0_0 a0_1 a0_2 l0_3 l0_4)))
theorem spec_ThreadOk.calls (k : Nat) (A0_0 : Option Addr) (c0_0 : Nat) (l0_0 : List (S69)) (a0_1 : Int) (a0_2 : Bool) (A0_3 : Option Addr) (c0_3 : Nat) (l0_3 : List (S172)) (A0_4 : Option Addr) (c0_4 : Nat) (l0_4 : List (S174)) (a1 : Int) (r : Bool) (w : World) (hr0_0 : Kd.C k69 w A0_0 l0_0.length l0_0) (hc0_0 : l0_0.length ≤ c0_0) (hr0_3 : Kd.C k172 w A0_3 l0_3.length l0_3) (hc0_3 : l0_3.length ≤ c0_3) (hr0_4 : Kd.C k174 w A0_4 l0_4.length l0_4) (hc0_4 : l0_4.length ≤ c0_4) (h : spec_ThreadOk.f k l0_0 a0_1 a0_2 l0_3 l0_4 a1 = some r) :
  Calls Tryz.prog 95 #[.agg #[.slice A0_0 l0_0.length c0_0, .int .i64 a0_1, .bool a0_2, .slice A0_3 l0_3.length c0_3, .slice A0_4 l0_4.length c0_4], .int .i64 a1] w fun e w' => e = .returned (.bool r) ∧ Below w.heap.size w w' := by
 have hu97 := Tryz.underlying97
 have hu69 := Tryz.underlying69
 have hu174 := Tryz.underlying174
 have HR0_0 := aM hr0_0
 have HC0_0 := aM hc0_0
 clear hr0_0 hc0_0
 have HR0_3 := aM hr0_3
 have HC0_3 := aM hc0_3
 clear hr0_3 hc0_3
 have HR0_4 := aM hr0_4
 have HC0_4 := aM hc0_4
 clear hr0_4 hc0_4
 have HB := aM (Below.refl w.heap.size w)
 have H := h
 unfold spec_ThreadOk.f at H
 clear h
 have HC3 := aM H
 clear H
 go_enter Tryz.func95, Tryz.ntmps95
 go_upto_region 1 with ((with_reducible refine gate_dst (N := 2) rfl ?_); (try (refine gate_guard (by rfl) ?_; dsimp only)); refine boxF 2 #[.slice A0_0 l0_0.length c0_0, .int .i64 a0_1, .bool a0_2, .slice A0_3 l0_3.length c0_3, .slice A0_4 l0_4.length c0_4] 97 ?_; intro gbz1 hg wz1 hbox hb; have BKz1 := aM (hbox); have GWz1 := aG hg HB; have GEz1 := aG hg HB; replace HB := aS HB hb; clear hb hbox hg)
 (try simp only [Act.put, List.setIfInBounds_toArray, List.set_cons_zero, List.set_cons_succ])
 go_cut [60] (fun vz1 wc => ∃ (kq : Nat) (x60_2 : Bool), vz1 = .bool x60_2 ∧ Aside0 (spec_ThreadOk.j0 kq a1 x60_2 l0_0 a0_1 a0_2 l0_3 l0_4 = some r) ∧ Aside0 (kq ≤ k) ∧ Aside0 (wc.heap[gbz1]? = some (.cells #[(.slice A0_0 l0_0.length c0_0), .int .i64 a0_1, .bool a0_2, (.slice A0_3 l0_3.length c0_3), (.slice A0_4 l0_4.length c0_4)] 97 (0, 0))) ∧ Aside0 (Below w.heap.size w wc))
 case first =>
  have H := HC3.out
  clear HC3
  by_cases c5 : (l0_0.length : Int) > 8
  ·rw [if_pos c5] at H
   have c5b0 := decide_eq_true c5
   have c5b1 : decide (8 < l0_0.length) = true := decide_eq_true (by omega)
   clear c5
   (first | rw [c5b0] | (simp only [i64_w, i32_w]; rw [c5b0]) | skip)
   have H' := aM H
   clear H
   have hczy1 := cZ5 BKz1.out
   go_wp2
   go_meet
   case rel => exact ⟨_, (true), rS, H', ⟨by first | omega | exact Nat.le_refl _⟩, ⟨(bX BKz1.out)⟩, ⟨(hX HB.out)⟩⟩
  rw [if_neg c5] at H
  have c5b0 := decide_eq_false c5
  have c5b1 : decide (8 < l0_0.length) = false := decide_eq_false (by omega)
  clear c5
  (first | rw [c5b0] | (simp only [i64_w, i32_w]; rw [c5b0]) | skip)
  replace H := bE H; obtain ⟨t102, A7, H⟩ := H
  cases t102
  case false =>
   rw [if_neg nft] at H
   have H' := aM H
   clear H
   have hczy1 := cZ5 BKz1.out
   go_wp2_with (go_at_call 43; (with_reducible refine (spec_l1In.calls _ _ _ _ _ A7.out).mono ?_); rintro e w' ⟨rfl, ⟨nd, rfl⟩⟩)
   go_meet
   case rel => exact ⟨_, (true), rS, H', ⟨by first | omega | exact Nat.le_refl _⟩, ⟨(bX BKz1.out)⟩, ⟨(hX HB.out)⟩⟩
  rw [if_pos rfl] at H
  have hczy1 := cZ5 BKz1.out
  go_wp2_with (go_at_call 43; (with_reducible refine (spec_l1In.calls _ _ _ _ _ A7.out).mono ?_); rintro e w' ⟨rfl, ⟨nd, rfl⟩⟩; refine Stop.out ?_)
  refine ⟨?_⟩
  by_cases c9 : a0_2 = true
  ·subst c9
   rw [if_pos rfl] at H
   revert H; refine iP (fun c10b0 H => ?_) (fun c10b0 H => ?_)
   ·have H' := aM H
    clear H
    go_wp2
    go_meet
    case rel => exact ⟨_, (true), rS, H', ⟨by first | omega | exact Nat.le_refl _⟩, ⟨(bX BKz1.out)⟩, ⟨(hX HB.out)⟩⟩
   by_cases c12 : (l0_3.length : Int) > 12
   ·rw [if_pos c12] at H
    have c12b0 := decide_eq_true c12
    have c12b1 : decide (12 < l0_3.length) = true := decide_eq_true (by omega)
    clear c12
    have H' := aM H
    clear H
    go_wp2
    go_meet
    case rel => exact ⟨_, (true), rS, H', ⟨by first | omega | exact Nat.le_refl _⟩, ⟨(bX BKz1.out)⟩, ⟨(hX HB.out)⟩⟩
   rw [if_neg c12] at H
   have c12b0 := decide_eq_false c12
   have c12b1 : decide (12 < l0_3.length) = false := decide_eq_false (by omega)
   clear c12
   have H' := aM H
   clear H
   go_wp2
   go_meet
   case rel => exact ⟨_, (decide ((l0_4.length : Int) > 2)), rS, H', ⟨by first | omega | exact Nat.le_refl _⟩, ⟨(bX BKz1.out)⟩, ⟨(hX HB.out)⟩⟩
  replace c9 := Bool.eq_false_iff.mpr c9
  subst c9
  rw [if_neg nft] at H
  revert H; refine iP (fun c15b0 H => ?_) (fun c15b0 H => ?_)
  ·have H' := aM H
   clear H
   go_wp2
   go_meet
   case rel => exact ⟨_, (true), rS, H', ⟨by first | omega | exact Nat.le_refl _⟩, ⟨(bX BKz1.out)⟩, ⟨(hX HB.out)⟩⟩
  by_cases c17 : (l0_3.length : Int) > 12
  ·rw [if_pos c17] at H
   have c17b0 := decide_eq_true c17
   have c17b1 : decide (12 < l0_3.length) = true := decide_eq_true (by omega)
   clear c17
   have H' := aM H
   clear H
   go_wp2
   go_meet
   case rel => exact ⟨_, (true), rS, H', ⟨by first | omega | exact Nat.le_refl _⟩, ⟨(bX BKz1.out)⟩, ⟨(hX HB.out)⟩⟩
  rw [if_neg c17] at H
  have c17b0 := decide_eq_false c17
  have c17b1 : decide (12 < l0_3.length) = false := decide_eq_false (by omega)
  clear c17
  have H' := aM H
  clear H
  go_wp2
  go_meet
  case rel => exact ⟨_, (decide ((l0_4.length : Int) > 2)), rS, H', ⟨by first | omega | exact Nat.le_refl _⟩, ⟨(bX BKz1.out)⟩, ⟨(hX HB.out)⟩⟩
 case rest =>
  clear HC3
  obtain ⟨kq, x60_2, rfl, HA, HJy1, BKz1, HB⟩ := hcut
  cases kq with
  | zero => exact absurd HA.out (by simp [spec_ThreadOk.j0])
  | succ kj2 =>
   have H := HA.out
   clear HA
   simp only [spec_ThreadOk.j0] at H
   cases x60_2
   case true =>
    rw [if_pos rfl] at H
    exact fR
   rw [if_neg nft] at H
   have H' := aM H
   clear H
   go_wp2
   go_loopg [5] kj2 (fun kq v5 w' => ∃ (x5_2 : Int), v5 = .int .i64 x5_2 ∧ Aside0 (spec_ThreadOk.l0 kq a1 x5_2 l0_0 a0_1 a0_2 l0_3 l0_4 = some r) ∧ Aside0 (kq ≤ kj2) ∧ Aside0 (w'.heap[gbz1]? = some (.cells #[(.slice A0_0 l0_0.length c0_0), .int .i64 a0_1, .bool a0_2, (.slice A0_3 l0_3.length c0_3), (.slice A0_4 l0_4.length c0_4)] 97 (0, 0))) ∧ Aside0 (Below w.heap.size w w'))
   case atStart => exact ⟨(0), rS, H', ⟨Nat.le_refl _⟩, ⟨(bX BKz1.out)⟩, ⟨(hX HB.out)⟩⟩
   case round =>
    clear H'
    obtain ⟨x5_2, rfl, HA, HKw1, BKz1, HB⟩ := hrel
    cases gk with
    | zero => exact absurd HA.out (by simp [spec_ThreadOk.l0])
    | succ k2 =>
     have H := HA.out
     clear HA
     simp only [spec_ThreadOk.l0] at H
     revert H; refine iP (fun c22b0 H => ?_) (fun c22b0 H => ?_)
     ·replace H := ifP H; obtain ⟨c23, H⟩ := H
      have c23b0 := decide_eq_true c23
      clear c23
      replace H := bE H; obtain ⟨t104, A24, H⟩ := H
      cases t104
      case false =>
       rw [if_neg nft] at H
       obtain rfl := sI H
       have hczv1 := cZ5 BKz1.out
       obtain ⟨adv1, ev1, pv1, qv1, hxv1⟩ := at_T69c HR0_0 HB x5_2
       cases ev1
       go_wp2_with (refine gB 138 73 Tryz.func138 (spec_OpOk.calls _ _ _ _ _ _ A24.out) ?_; intro wv1 hb; replace BKz1 := aB BKz1 hb; replace HB := aS HB hb; clear hb)
       go_ret
       exact ⟨rE, (hX HB.out)⟩
      rw [if_pos rfl] at H
      have H' := aM H
      clear H
      have hczv1 := cZ5 BKz1.out
      obtain ⟨adv1, ev1, pv1, qv1, hxv1⟩ := at_T69c HR0_0 HB x5_2
      cases ev1
      go_wp2_with (refine gB 138 73 Tryz.func138 (spec_OpOk.calls _ _ _ _ _ _ A24.out) ?_; intro wv1 hb; replace BKz1 := aB BKz1 hb; replace HB := aS HB hb; clear hb)
      go_roundg k2
      case measure => have := HJy1.out; have := HKw1.out; omega
      case rel => exact ⟨(wrap64 (x5_2 + 1)), rS, H', ⟨by have := HJy1.out; have := HKw1.out; omega⟩, ⟨(bX BKz1.out)⟩, ⟨(hX HB.out)⟩⟩
     have H' := aM H
     clear H
     have hczv1 := cZ5 BKz1.out
     go_wp2
     go_loopg [6] k2 (fun kq v6 w' => ∃ (x6_3 : Int), v6 = .int .i64 x6_3 ∧ Aside0 (spec_ThreadOk.l1 kq a1 x6_3 l0_0 a0_1 a0_2 l0_3 l0_4 = some r) ∧ Aside0 (kq ≤ k2) ∧ Aside0 (w'.heap[gbz1]? = some (.cells #[(.slice A0_0 l0_0.length c0_0), .int .i64 a0_1, .bool a0_2, (.slice A0_3 l0_3.length c0_3), (.slice A0_4 l0_4.length c0_4)] 97 (0, 0))) ∧ Aside0 (Below w.heap.size w w'))
     case atStart => exact ⟨(0), rS, H', ⟨Nat.le_refl _⟩, ⟨(bX BKz1.out)⟩, ⟨(hX HB.out)⟩⟩
     case round =>
      clear H'
      try clear c22b0
      try clear hczv1
      obtain ⟨x6_3, rfl, HA, HKu1, BKz1, HB⟩ := hrel
      cases gk with
      | zero => exact absurd HA.out (by simp [spec_ThreadOk.l1])
      | succ k3 =>
       have H := HA.out
       clear HA
       simp only [spec_ThreadOk.l1] at H
       revert H; refine iP (fun c31b0 H => ?_) (fun c31b0 H => ?_)
       ·replace H := ifP H; obtain ⟨c32, H⟩ := H
        have c32b0 := decide_eq_true c32
        clear c32
        replace H := bE H; obtain ⟨t106, A33, H⟩ := H
        cases t106
        case false =>
         rw [if_neg nft] at H
         obtain rfl := sI H
         have hczt1 := cZ5 BKz1.out
         obtain ⟨adt1, et1, pt1, qt1, hxt1⟩ := at_T172c HR0_3 HB x6_3
         cases et1
         go_wp2_with (refine gD 43 88 Tryz.func43 (spec_l1In.calls _ _ _ _ _ A33.out) ?_; intro nd)
         go_ret
         exact ⟨rE, (hX HB.out)⟩
        rw [if_pos rfl] at H
        replace H := bE H; obtain ⟨t108, A35, H⟩ := H
        have hczt1 := cZ5 BKz1.out
        obtain ⟨adt1, et1, pt1, qt1, hxt1⟩ := at_T172c HR0_3 HB x6_3
        cases et1
        go_wp2_with (refine gD 43 88 Tryz.func43 (spec_l1In.calls _ _ _ _ _ A33.out) ?_; intro nd; have pt2 : 0 ≤ (x6_3 : Int) := odA; have qt2 : x6_3 < (l0_3.length : Int) := odA; obtain ⟨adt2, et2, hxt3, hxt4⟩ := at_T172 HR0_3.out x6_3 pt2 qt2; obtain rfl : adt1 = adt2 := (by injection et2); replace hxt3 := bc HB.out hxt3; replace hxt4 := bc HB.out hxt4; replace pt2 := eq_true pt2; replace qt2 := eq_true qt2; refine Stop.out ?_)
        refine ⟨?_⟩
        cases t108
        case false =>
         rw [if_neg nft] at H
         obtain rfl := sI H
         go_wp2_with (go_at_call 43; (with_reducible refine (spec_l1In.calls _ _ _ _ _ A35.out).mono ?_); rintro e w' ⟨rfl, ⟨nd, rfl⟩⟩)
         go_ret
         exact ⟨rE, (hX HB.out)⟩
        rw [if_pos rfl] at H
        have H' := aM H
        clear H
        go_wp2_with (go_at_call 43; (with_reducible refine (spec_l1In.calls _ _ _ _ _ A35.out).mono ?_); rintro e w' ⟨rfl, ⟨nd, rfl⟩⟩)
        go_roundg k3
        case measure => have := HJy1.out; have := HKw1.out; have := HKu1.out; omega
        case rel => exact ⟨(wrap64 (x6_3 + 1)), rS, H', ⟨by have := HJy1.out; have := HKw1.out; have := HKu1.out; omega⟩, ⟨(bX BKz1.out)⟩, ⟨(hX HB.out)⟩⟩
       have H' := aM H
       clear H
       have hczt1 := cZ5 BKz1.out
       go_wp2
       go_loopg [7] k3 (fun kq v7 w' => ∃ (x7_4 : Int), v7 = .int .i64 x7_4 ∧ Aside0 (spec_ThreadOk.l2 kq a1 x7_4 l0_0 a0_1 a0_2 l0_3 l0_4 = some r) ∧ Aside0 (kq ≤ k3) ∧ Aside0 (w'.heap[gbz1]? = some (.cells #[(.slice A0_0 l0_0.length c0_0), .int .i64 a0_1, .bool a0_2, (.slice A0_3 l0_3.length c0_3), (.slice A0_4 l0_4.length c0_4)] 97 (0, 0))) ∧ Aside0 (Below w.heap.size w w'))
       case atStart => exact ⟨(0), rS, H', ⟨Nat.le_refl _⟩, ⟨(bX BKz1.out)⟩, ⟨(hX HB.out)⟩⟩
       case round =>
        clear H'
        try clear c22b0
        try clear c31b0
        try clear hczv1
        try clear hczt1
        obtain ⟨x7_4, rfl, HA, HKs1, BKz1, HB⟩ := hrel
        cases gk with
        | zero => exact absurd HA.out (by simp [spec_ThreadOk.l2])
        | succ k4 =>
         have H := HA.out
         clear HA
         simp only [spec_ThreadOk.l2] at H
         revert H; refine iN (fun c41b0 H => ?_) (fun c41b0 H => ?_)
         ·obtain rfl := sI H
          have hczr1 := cZ5 BKz1.out
          exact fS
         replace H := ifQ H; obtain ⟨c42b0, H⟩ := H
         have hczr1 := cZ5 BKz1.out
         obtain ⟨adr1, er1, pr1, qr1, hxr1⟩ := at_T174c HR0_4 HB x7_4
         cases er1
         go_wp2_with ((with_reducible refine gate_dst (N := 8) rfl ?_); (try (refine gate_guard (by rfl) ?_; dsimp only)); refine boxF 8 #[.int .i64 0, .int .i64 0, .int .i64 0, .int .i64 0] 174 ?_; intro gbr1 hg wr1 hbox hb; have BKr1 := aM (hbox); have GWr1 := aG hg HB; have GEr1 := aG hg HB; have NBr1 := aL hg BKz1; have NBr2 := aR hg BKz1; replace BKz1 := aB BKz1 hb; replace HB := aS HB hb; clear hb hbox hg; have hnbr1 := NBr2.out; have hncr1 := NBr1.out; have hczr6 := cZ4 BKr1.out; refine Stop.out ?_)
         refine ⟨?_⟩
         revert H; refine iP (fun c43b0 H => ?_) (fun c43b0 H => ?_)
         ·obtain rfl := sI H
          exact fS
         revert H; refine iP (fun c48b0 H => ?_) (fun c48b0 H => ?_)
         ·obtain rfl := sI H
          exact fS
         replace H := bE H; obtain ⟨t111, A53, H⟩ := H
         cases t111
         case false =>
          rw [if_neg nft] at H
          obtain rfl := sI H
          go_wp2_with (go_at_call 43; (with_reducible refine (spec_l1In.calls _ _ _ _ _ A53.out).mono ?_); rintro e w' ⟨rfl, ⟨nd, rfl⟩⟩)
          go_ret
          exact ⟨rE, (hX HB.out)⟩
         rw [if_pos rfl] at H
         replace H := bE H; obtain ⟨t112, A55, H⟩ := H
         go_wp2_with (go_at_call 43; (with_reducible refine (spec_l1In.calls _ _ _ _ _ A53.out).mono ?_); rintro e w' ⟨rfl, ⟨nd, rfl⟩⟩; refine Stop.out ?_)
         refine ⟨?_⟩
         cases t112
         case false =>
          rw [if_neg nft] at H
          obtain rfl := sI H
          go_wp2_with (go_at_call 43; (with_reducible refine (spec_l1In.calls _ _ _ _ _ A55.out).mono ?_); rintro e w' ⟨rfl, ⟨nd, rfl⟩⟩)
          go_ret
          exact ⟨rE, (hX HB.out)⟩
         rw [if_pos rfl] at H
         replace H := bE H; obtain ⟨t113, A57, H⟩ := H
         go_wp2_with (go_at_call 43; (with_reducible refine (spec_l1In.calls _ _ _ _ _ A55.out).mono ?_); rintro e w' ⟨rfl, ⟨nd, rfl⟩⟩; refine Stop.out ?_)
         refine ⟨?_⟩
         cases t113
         case false =>
          rw [if_neg nft] at H
          obtain rfl := sI H
          go_wp2_with (go_at_call 43; (with_reducible refine (spec_l1In.calls _ _ _ _ _ A57.out).mono ?_); rintro e w' ⟨rfl, ⟨nd, rfl⟩⟩)
          go_ret
          exact ⟨rE, (hX HB.out)⟩
         rw [if_pos rfl] at H
         have H' := aM H
         clear H
         go_wp2_with (go_at_call 43; (with_reducible refine (spec_l1In.calls _ _ _ _ _ A57.out).mono ?_); rintro e w' ⟨rfl, ⟨nd, rfl⟩⟩)
         go_roundg k4
         case measure => have := HJy1.out; have := HKw1.out; have := HKu1.out; have := HKs1.out; omega
         case rel => exact ⟨(wrap64 (x7_4 + 1)), rS, H', ⟨by have := HJy1.out; have := HKw1.out; have := HKu1.out; have := HKs1.out; omega⟩, ⟨(bF BKz1.out)⟩, ⟨(hX HB.out)⟩⟩
end Go.Proofs.YtmljebgideecjaaGreat.P2
namespace Go.Proofs.YtmljebgideecjaaGreat.P2
open Go.RowKit Go.Proofs.YtmljebgideecjaaGreatW.PrintWords Go.Proofs.YtmljebgideecjaaGreatW.PrintLast Go.Proofs.YtmljebgideecjaaGreatW.PrintMore
attribute [local go_sem] max2_int min2_int max_two min_two max_three min_three max_four min_four   -- for this text's walks alone
theorem eqA69 (d : Nat) (w : World) (x0 y0 : Int) (x1 y1 : Int) (x2 y2 : Int) :
  (Op.equalIn (d + 2) 69 (.agg #[.int .i64 x0, .int .i64 x1, .int .i64 x2]) (.agg #[.int .i64 y0, .int .i64 y1, .int .i64 y2])).run Tryz.prog w = .ok (x0 == y0 && (x1 == y1 && (x2 == y2))) w := by
 refine eqA_of Tryz.underlying69 (by kernel_rfl) ?_
 refine eqf_cons (by rfl) (by go_simp; rfl) (by go_simp; rfl) (by go_simp) ?_
 refine eqf_cons (by rfl) (by go_simp; rfl) (by go_simp; rfl) (by go_simp) ?_
 exact eqf_last (by rfl) (by go_simp; rfl) (by go_simp; rfl) (by go_simp)
end Go.Proofs.YtmljebgideecjaaGreat.P2
namespace Go.Proofs.YtmljebgideecjaaGreat.P2
open Go.Proofs.YtmljebgideecjaaGreatZ Go.RowKit Go.Proofs.YtmljebgideecjaaGreatW.PrintWords Go.Proofs.YtmljebgideecjaaGreatW.PrintLast Go.Proofs.YtmljebgideecjaaGreatW.PrintMore
attribute [local go_sem] max2_int min2_int max_two min_two max_three min_three max_four min_four   -- for this text's walks alone
def spec_l9Last.l0 : Nat → Int → Int → List (S140) → List (S162) → List (S97) → Int → List (S73) → List Int → List Int → Int → Option (Int)
 | 0, _, _, _, _, _, _, _, _, _, _ => none
 | k + 1, x1, x5, x102000, x102001, x102002, x102003, x102004, x102005, x102006, x102007 => if x5 ≥ 0 then (if 0 ≤ x5 then (if x5 < (x102004.length : Int) then (if ((rd_T73 x102004 x5).f0) = x1 then (some x5) else (spec_l9Last.l0 k x1 (wrap64 (x5 - 1)) x102000 x102001 x102002 x102003 x102004 x102005 x102006 x102007)) else (none)) else (none)) else (some (-1))
def spec_l9Last.f (k : Nat) (l0_0 : List (S140)) (l0_1 : List (S162)) (l0_2 : List (S97)) (a0_3 : Int) (l0_4 : List (S73)) (l0_5 : List Int) (l0_6 : List Int) (a0_7 : Int) (a1 : Int) : Option (Int) := spec_l9Last.l0 k a1 (wrap64 ((l0_4.length : Int) - 1)) l0_0 l0_1 l0_2 a0_3 l0_4 l0_5 l0_6 a0_7
theorem spec_l9Last.calls (k : Nat) (A0_0 : Option Addr) (c0_0 : Nat) (l0_0 : List (S140)) (A0_1 : Option Addr) (c0_1 : Nat) (l0_1 : List (S162)) (A0_2 : Option Addr) (c0_2 : Nat) (l0_2 : List (S97)) (a0_3 : Int) (A0_4 : Option Addr) (c0_4 : Nat) (l0_4 : List (S73)) (A0_5 : Option Addr) (c0_5 : Nat) (l0_5 : List Int) (A0_6 : Option Addr) (c0_6 : Nat) (l0_6 : List Int) (a0_7 : Int) (a1 : Int) (r : Int) (w : World) (hr0_0 : Kd.C k140 w A0_0 l0_0.length l0_0) (hc0_0 : l0_0.length ≤ c0_0) (hr0_1 : Kd.C k162 w A0_1 l0_1.length l0_1) (hc0_1 : l0_1.length ≤ c0_1) (hr0_2 : Kd.C k97 w A0_2 l0_2.length l0_2) (hc0_2 : l0_2.length ≤ c0_2) (hr0_4 : Kd.C k73 w A0_4 l0_4.length l0_4) (hc0_4 : l0_4.length ≤ c0_4) (hr0_5 : Kd.C (Kd.int .i64) w A0_5 l0_5.length l0_5) (hc0_5 : l0_5.length ≤ c0_5) (hr0_6 : Kd.C (Kd.int .i64) w A0_6 l0_6.length l0_6) (hc0_6 : l0_6.length ≤ c0_6) (h : spec_l9Last.f k l0_0 l0_1 l0_2 a0_3 l0_4 l0_5 l0_6 a0_7 a1 = some r) :
  Calls Tryz.prog 163 #[.agg #[.slice A0_0 l0_0.length c0_0, .slice A0_1 l0_1.length c0_1, .slice A0_2 l0_2.length c0_2, .int .i64 a0_3, .slice A0_4 l0_4.length c0_4, .slice A0_5 l0_5.length c0_5, .slice A0_6 l0_6.length c0_6, .int .i64 a0_7], .int .i64 a1] w fun e w' => e = .returned (.int .i64 r) ∧ Below w.heap.size w w' := by
 have hu43 := Tryz.underlying43
 have HR0_0 := aM hr0_0
 have HC0_0 := aM hc0_0
 clear hr0_0 hc0_0
 have HR0_1 := aM hr0_1
 have HC0_1 := aM hc0_1
 clear hr0_1 hc0_1
 have HR0_2 := aM hr0_2
 have HC0_2 := aM hc0_2
 clear hr0_2 hc0_2
 have HR0_4 := aM hr0_4
 have HC0_4 := aM hc0_4
 clear hr0_4 hc0_4
 have HR0_5 := aM hr0_5
 have HC0_5 := aM hc0_5
 clear hr0_5 hc0_5
 have HR0_6 := aM hr0_6
 have HC0_6 := aM hc0_6
 clear hr0_6 hc0_6
 have HB := aM (Below.refl w.heap.size w)
 have H := h
 unfold spec_l9Last.f at H
 clear h
 have H' := aM H
 clear H
 go_enter Tryz.func163, Tryz.ntmps163
 go_wp2_with (refine boxE 2 #[.slice A0_0 l0_0.length c0_0, .slice A0_1 l0_1.length c0_1, .slice A0_2 l0_2.length c0_2, .int .i64 a0_3, .slice A0_4 l0_4.length c0_4, .slice A0_5 l0_5.length c0_5, .slice A0_6 l0_6.length c0_6, .int .i64 a0_7] 43 ?_; intro gbz1 hg wz1 hbox hb; have BKz1 := aM (hbox); have GWz1 := aG hg HB; have GEz1 := aG hg HB; replace HB := aS HB hb; clear hb hbox hg; have hczz1 := cZ8 BKz1.out)
 go_loopg [5] k (fun kq v5 w' => ∃ (x5_1 : Int), v5 = .int .i64 x5_1 ∧ Aside0 (spec_l9Last.l0 kq a1 x5_1 l0_0 l0_1 l0_2 a0_3 l0_4 l0_5 l0_6 a0_7 = some r) ∧ Aside0 (kq ≤ k) ∧ Aside0 (w'.heap[gbz1]? = some (.cells #[(.slice A0_0 l0_0.length c0_0), (.slice A0_1 l0_1.length c0_1), (.slice A0_2 l0_2.length c0_2), .int .i64 a0_3, (.slice A0_4 l0_4.length c0_4), (.slice A0_5 l0_5.length c0_5), (.slice A0_6 l0_6.length c0_6), .int .i64 a0_7] 43 (0, 0))) ∧ Aside0 (Below w.heap.size w w'))
 case atStart => exact ⟨(wrap64 ((l0_4.length : Int) - 1)), rS, H', ⟨Nat.le_refl _⟩, ⟨(bX BKz1.out)⟩, ⟨(hX HB.out)⟩⟩
 case round =>
  clear H'
  try clear hczz1
  obtain ⟨x5_1, rfl, HA, HKy1, BKz1, HB⟩ := hrel
  cases gk with
  | zero => exact absurd HA.out (by simp [spec_l9Last.l0])
  | succ k1 =>
   have H := HA.out
   clear HA
   simp only [spec_l9Last.l0] at H
   revert H; refine iN (fun c5b0 H => ?_) (fun c5b0 H => ?_)
   ·obtain rfl := sI H
    exact fS
   replace H := ifQ H; obtain ⟨c6b0, H⟩ := H
   replace H := ifQ H; obtain ⟨c7b0, H⟩ := H
   revert H; refine eP (fun c8b0 c8b1 H => ?_) (fun c8b0 c8b1 H => ?_)
   ·obtain rfl := sI H
    have hczx1 := cZ8 BKz1.out
    obtain ⟨adx1, Ax1, cx1, ex1, px1, qx1, hxx1, HCx1, HRx1⟩ := at_T73c HR0_4 HB x5_1
    cases ex1
    exact fS
   have H' := aM H
   clear H
   have hczx1 := cZ8 BKz1.out
   obtain ⟨adx1, Ax1, cx1, ex1, px1, qx1, hxx1, HCx1, HRx1⟩ := at_T73c HR0_4 HB x5_1
   cases ex1
   go_wp2
   go_roundg k1
   case measure => have := HKy1.out; omega
   case rel => exact ⟨(wrap64 (x5_1 - 1)), rS, H', ⟨by have := HKy1.out; omega⟩, ⟨(bX BKz1.out)⟩, ⟨(hX HB.out)⟩⟩
end Go.Proofs.YtmljebgideecjaaGreat.P2
namespace Go.Proofs.YtmljebgideecjaaGreat.P2
open Go.Proofs.YtmljebgideecjaaGreatZ Go.RowKit Go.Proofs.YtmljebgideecjaaGreatW.PrintWords Go.Proofs.YtmljebgideecjaaGreatW.PrintLast Go.Proofs.YtmljebgideecjaaGreatW.PrintMore
attribute [local go_sem] max2_int min2_int max_two min_two max_three min_three max_four min_four   -- for this text's walks alone
attribute [local go_sem high] eqA69
def spec_l9Thread.l0 : Nat → Int → Int → Int → Int → List (S140) → List (S162) → List (S97) → Int → List (S73) → List Int → List Int → Int → List (S69) → Int → Bool → List (S172) → List (S174) → Option (Bool)
 | 0, _, _, _, _, _, _, _, _, _, _, _, _, _, _, _, _, _ => none
 | k + 1, x1, x6, x7, x8, x102000, x102001, x102002, x102003, x102004, x102005, x102006, x102007, x104000, x104001, x104002, x104003, x104004 => if x8 < (x102004.length : Int) then (if 0 ≤ x8 then (if ((rd_T73 x102004 x8).f0) = x1 then (if ((rd_T73 x102004 x8).f4) ≥ 0 then (spec_l9Thread.l0 k x1 x6 (wrap64 (x7 + 1)) (wrap64 (x8 + 1)) x102000 x102001 x102002 x102003 x102004 x102005 x102006 x102007 x104000 x104001 x104002 x104003 x104004) else (if x104002 = true then (if x8 = x6 then (spec_l9Thread.l0 k x1 x6 x7 (wrap64 (x8 + 1)) x102000 x102001 x102002 x102003 x102004 x102005 x102006 x102007 x104000 x104001 x104002 x104003 x104004) else (some false)) else (some false))) else (spec_l9Thread.l0 k x1 x6 x7 (wrap64 (x8 + 1)) x102000 x102001 x102002 x102003 x102004 x102005 x102006 x102007 x104000 x104001 x104002 x104003 x104004)) else (none)) else (if x7 = x104001 then (if x104002 = true then (if x6 ≥ 0 then (if 0 ≤ x6 then (if x6 < (x102004.length : Int) then (if ((rd_T73 x102004 x6).f4) = (-1) then (if 0 ≤ x104001 then (if x104001 < (x104000.length : Int) then (some (((rd_T73 x102004 x6).f1.f0) == ((rd_T69 x104000 x104001).f0) && (((rd_T73 x102004 x6).f1.f1) == ((rd_T69 x104000 x104001).f1) && (((rd_T73 x102004 x6).f1.f2) == ((rd_T69 x104000 x104001).f2))))) else (none)) else (none)) else (some false)) else (none)) else (none)) else (some false)) else (some true)) else (some false))
def spec_l9Thread.f (k : Nat) (l0_0 : List (S140)) (l0_1 : List (S162)) (l0_2 : List (S97)) (a0_3 : Int) (l0_4 : List (S73)) (l0_5 : List Int) (l0_6 : List Int) (a0_7 : Int) (a1 : Int) : Option (Bool) := if 0 ≤ a1 then (if a1 < (l0_2.length : Int) then ((spec_l9Last.f k l0_0 l0_1 l0_2 a0_3 l0_4 l0_5 l0_6 a0_7 a1).bind fun t104 => (spec_l9Thread.l0 k a1 t104 0 0 l0_0 l0_1 l0_2 a0_3 l0_4 l0_5 l0_6 a0_7 ((rd_T97 l0_2 a1).f0) ((rd_T97 l0_2 a1).f1) ((rd_T97 l0_2 a1).f2) ((rd_T97 l0_2 a1).f3) ((rd_T97 l0_2 a1).f4))) else (none)) else (none)
theorem spec_l9Thread.calls (k : Nat) (A0_0 : Option Addr) (c0_0 : Nat) (l0_0 : List (S140)) (A0_1 : Option Addr) (c0_1 : Nat) (l0_1 : List (S162)) (A0_2 : Option Addr) (c0_2 : Nat) (l0_2 : List (S97)) (a0_3 : Int) (A0_4 : Option Addr) (c0_4 : Nat) (l0_4 : List (S73)) (A0_5 : Option Addr) (c0_5 : Nat) (l0_5 : List Int) (A0_6 : Option Addr) (c0_6 : Nat) (l0_6 : List Int) (a0_7 : Int) (a1 : Int) (r : Bool) (w : World) (hr0_0 : Kd.C k140 w A0_0 l0_0.length l0_0) (hc0_0 : l0_0.length ≤ c0_0) (hr0_1 : Kd.C k162 w A0_1 l0_1.length l0_1) (hc0_1 : l0_1.length ≤ c0_1) (hr0_2 : Kd.C k97 w A0_2 l0_2.length l0_2) (hc0_2 : l0_2.length ≤ c0_2) (hr0_4 : Kd.C k73 w A0_4 l0_4.length l0_4) (hc0_4 : l0_4.length ≤ c0_4) (hr0_5 : Kd.C (Kd.int .i64) w A0_5 l0_5.length l0_5) (hc0_5 : l0_5.length ≤ c0_5) (hr0_6 : Kd.C (Kd.int .i64) w A0_6 l0_6.length l0_6) (hc0_6 : l0_6.length ≤ c0_6) (h : spec_l9Thread.f k l0_0 l0_1 l0_2 a0_3 l0_4 l0_5 l0_6 a0_7 a1 = some r) :
  Calls Tryz.prog 96 #[.agg #[.slice A0_0 l0_0.length c0_0, .slice A0_1 l0_1.length c0_1, .slice A0_2 l0_2.length c0_2, .int .i64 a0_3, .slice A0_4 l0_4.length c0_4, .slice A0_5 l0_5.length c0_5, .slice A0_6 l0_6.length c0_6, .int .i64 a0_7], .int .i64 a1] w fun e w' => e = .returned (.bool r) ∧ Below w.heap.size w w' := by
 have hu43 := Tryz.underlying43
 have hu97 := Tryz.underlying97
 have hu69 := Tryz.underlying69
 have HR0_0 := aM hr0_0
 have HC0_0 := aM hc0_0
 clear hr0_0 hc0_0
 have HR0_1 := aM hr0_1
 have HC0_1 := aM hc0_1
 clear hr0_1 hc0_1
 have HR0_2 := aM hr0_2
 have HC0_2 := aM hc0_2
 clear hr0_2 hc0_2
 have HR0_4 := aM hr0_4
 have HC0_4 := aM hc0_4
 clear hr0_4 hc0_4
 have HR0_5 := aM hr0_5
 have HC0_5 := aM hc0_5
 clear hr0_5 hc0_5
 have HR0_6 := aM hr0_6
 have HC0_6 := aM hc0_6
 clear hr0_6 hc0_6
 have HB := aM (Below.refl w.heap.size w)
 have H := h
 unfold spec_l9Thread.f at H
 clear h
 replace H := ifQ H; obtain ⟨c3b0, H⟩ := H
 replace H := ifQ H; obtain ⟨c4b0, H⟩ := H
 replace H := bE H; obtain ⟨t104, A5, H⟩ := H
 have H' := aM H
 clear H
 go_enter Tryz.func96, Tryz.ntmps96
 go_wp2_with (first | (refine boxE 2 #[.slice A0_0 l0_0.length c0_0, .slice A0_1 l0_1.length c0_1, .slice A0_2 l0_2.length c0_2, .int .i64 a0_3, .slice A0_4 l0_4.length c0_4, .slice A0_5 l0_5.length c0_5, .slice A0_6 l0_6.length c0_6, .int .i64 a0_7] 43 ?_; intro gbz1 hg wz1 hbox hb; have BKz1 := aM (hbox); have GWz1 := aG hg HB; have GEz1 := aG hg HB; replace HB := aS HB hb; clear hb hbox hg; have hczz1 := cZ8 BKz1.out; have pz1 : 0 ≤ (a1 : Int) := odA; have qz1 : a1 < (l0_2.length : Int) := odA; obtain ⟨adz1, Az1, cz1, Az2, cz2, Az3, cz3, ez1, hxz1, hxz2, hxz3, hxz4, hxz5, hlz1, hiz1, hlz2, hiz2, hlz3, hiz3⟩ := at_T97 HR0_2.out a1 pz1 qz1; cases ez1; replace hxz1 := bc HB.out hxz1; replace hxz2 := bc HB.out hxz2; replace hxz3 := bc HB.out hxz3; replace hxz4 := bc HB.out hxz4; replace hxz5 := bc HB.out hxz5; have HRz1 := aM hiz1; have HCz1 := aM hlz1; clear hiz1 hlz1; have HRz2 := aM hiz2; have HCz2 := aM hlz2; clear hiz2 hlz2; have HRz3 := aM hiz3; have HCz3 := aM hlz3; clear hiz3 hlz3; replace pz1 := eq_true pz1; replace qz1 := eq_true qz1) | (refine boxE 5 #[.slice none 0 0, .int .i64 0, .bool false, .slice none 0 0, .slice none 0 0] 97 ?_; intro gbz2 hg wz2 hbox hb; have BKz2 := aM (hbox); have GWz2 := aG hg HB; have GEz2 := aG hg HB; have NBz1 := aL hg BKz1; have NBz2 := aR hg BKz1; replace BKz1 := aB BKz1 hb; replace HB := aS HB hb; clear hb hbox hg; have hnbz1 := NBz2.out; have hncz1 := NBz1.out; have hczz9 := cZ5 BKz2.out; have hczz14 := cZ8 BKz1.out) | (go_at_call 163; (with_reducible refine (spec_l9Last.calls _ _ _ _ _ _ _ _ _ _ _ _ _ _ _ _ _ _ _ _ _ _ _ _ (by exact Kd.C_below HR0_0.out (hX HB.out)) HC0_0.out (by exact Kd.C_below HR0_1.out (hX HB.out)) HC0_1.out (by exact Kd.C_below HR0_2.out (hX HB.out)) HC0_2.out (by exact Kd.C_below HR0_4.out (hX HB.out)) HC0_4.out (by exact Kd.C_below HR0_5.out (hX HB.out)) HC0_5.out (by exact Kd.C_below HR0_6.out (hX HB.out)) HC0_6.out A5.out).mono ?_); rintro e wz3 ⟨rfl, hb⟩; replace BKz1 := aF BKz1 hb; replace BKz2 := aM (blk_below (g := gbz2) (o := .cells #[.slice Az1 ((rd_T97 l0_2 a1).f0).length cz1, .int .i64 ((rd_T97 l0_2 a1).f1), .bool ((rd_T97 l0_2 a1).f2), .slice Az2 ((rd_T97 l0_2 a1).f3).length cz2, .slice Az3 ((rd_T97 l0_2 a1).f4).length cz3] 97 (0, 0)) (bP BKz2.out) hb); replace HB := aS HB hb; clear hb))
 repeat (go_quiet (fail); try go_wp2_with (first | ((with_reducible refine gate_dst (N := 2) rfl ?_); refine boxF 2 #[.slice A0_0 l0_0.length c0_0, .slice A0_1 l0_1.length c0_1, .slice A0_2 l0_2.length c0_2, .int .i64 a0_3, .slice A0_4 l0_4.length c0_4, .slice A0_5 l0_5.length c0_5, .slice A0_6 l0_6.length c0_6, .int .i64 a0_7] 43 ?_; intro gbz1 hg wz1 hbox hb; have BKz1 := aM (hbox); have GWz1 := aG hg HB; have GEz1 := aG hg HB; replace HB := aS HB hb; clear hb hbox hg; have hczz1 := cZ8 BKz1.out; have pz1 : 0 ≤ (a1 : Int) := odA; have qz1 : a1 < (l0_2.length : Int) := odA; obtain ⟨adz1, Az1, cz1, Az2, cz2, Az3, cz3, ez1, hxz1, hxz2, hxz3, hxz4, hxz5, hlz1, hiz1, hlz2, hiz2, hlz3, hiz3⟩ := at_T97 HR0_2.out a1 pz1 qz1; cases ez1; replace hxz1 := bc HB.out hxz1; replace hxz2 := bc HB.out hxz2; replace hxz3 := bc HB.out hxz3; replace hxz4 := bc HB.out hxz4; replace hxz5 := bc HB.out hxz5; have HRz1 := aM hiz1; have HCz1 := aM hlz1; clear hiz1 hlz1; have HRz2 := aM hiz2; have HCz2 := aM hlz2; clear hiz2 hlz2; have HRz3 := aM hiz3; have HCz3 := aM hlz3; clear hiz3 hlz3; replace pz1 := eq_true pz1; replace qz1 := eq_true qz1) | ((with_reducible refine gate_dst (N := 5) rfl ?_); refine boxF 5 #[.slice none 0 0, .int .i64 0, .bool false, .slice none 0 0, .slice none 0 0] 97 ?_; intro gbz2 hg wz2 hbox hb; have BKz2 := aM (hbox); have GWz2 := aG hg HB; have GEz2 := aG hg HB; have NBz1 := aL hg BKz1; have NBz2 := aR hg BKz1; replace BKz1 := aB BKz1 hb; replace HB := aS HB hb; clear hb hbox hg; have hnbz1 := NBz2.out; have hncz1 := NBz1.out; have hczz9 := cZ5 BKz2.out; have hczz14 := cZ8 BKz1.out) | (go_at_call 163; (with_reducible refine (spec_l9Last.calls _ _ _ _ _ _ _ _ _ _ _ _ _ _ _ _ _ _ _ _ _ _ _ _ (by exact Kd.C_below HR0_0.out (hX HB.out)) HC0_0.out (by exact Kd.C_below HR0_1.out (hX HB.out)) HC0_1.out (by exact Kd.C_below HR0_2.out (hX HB.out)) HC0_2.out (by exact Kd.C_below HR0_4.out (hX HB.out)) HC0_4.out (by exact Kd.C_below HR0_5.out (hX HB.out)) HC0_5.out (by exact Kd.C_below HR0_6.out (hX HB.out)) HC0_6.out A5.out).mono ?_); rintro e wz3 ⟨rfl, hb⟩; replace BKz1 := aF BKz1 hb; replace BKz2 := aM (blk_below (g := gbz2) (o := .cells #[.slice Az1 ((rd_T97 l0_2 a1).f0).length cz1, .int .i64 ((rd_T97 l0_2 a1).f1), .bool ((rd_T97 l0_2 a1).f2), .slice Az2 ((rd_T97 l0_2 a1).f3).length cz2, .slice Az3 ((rd_T97 l0_2 a1).f4).length cz3] 97 (0, 0)) (bP BKz2.out) hb); replace HB := aS HB hb; clear hb)))
 go_loopg [7, 8] k (fun kq v7 v8 w' => ∃ (x7_1 : Int) (x8_1 : Int), v7 = .int .i64 x7_1 ∧ v8 = .int .i64 x8_1 ∧ Aside0 (spec_l9Thread.l0 kq a1 t104 x7_1 x8_1 l0_0 l0_1 l0_2 a0_3 l0_4 l0_5 l0_6 a0_7 ((rd_T97 l0_2 a1).f0) ((rd_T97 l0_2 a1).f1) ((rd_T97 l0_2 a1).f2) ((rd_T97 l0_2 a1).f3) ((rd_T97 l0_2 a1).f4) = some r) ∧ Aside0 (kq ≤ k) ∧ Aside0 (w'.heap[gbz1]? = some (.cells #[(.slice A0_0 l0_0.length c0_0), (.slice A0_1 l0_1.length c0_1), (.slice (some adz1) l0_2.length c0_2), .int .i64 a0_3, (.slice A0_4 l0_4.length c0_4), (.slice A0_5 l0_5.length c0_5), (.slice A0_6 l0_6.length c0_6), .int .i64 a0_7] 43 (0, 0))) ∧ Aside0 (w'.heap[gbz2]? = some (.cells #[(.slice Az1 ((rd_T97 l0_2 a1).f0).length cz1), .int .i64 ((rd_T97 l0_2 a1).f1), .bool ((rd_T97 l0_2 a1).f2), (.slice Az2 ((rd_T97 l0_2 a1).f3).length cz2), (.slice Az3 ((rd_T97 l0_2 a1).f4).length cz3)] 97 (0, 0))) ∧ Aside0 (Below w.heap.size w w'))
 case atStart => exact ⟨(0), (0), rS, rS, H', ⟨Nat.le_refl _⟩, ⟨(bX BKz1.out)⟩, ⟨(bX BKz2.out)⟩, ⟨(hX HB.out)⟩⟩
 case round =>
  clear H'
  try clear c3b0
  try clear c4b0
  try clear hczz9
  try clear hczz14
  try clear hczz1
  try clear hxz1
  try clear hxz2
  try clear hxz3
  try clear hxz4
  try clear hxz5
  try clear pz1
  try clear qz1
  obtain ⟨x7_1, x8_1, rfl, rfl, HA, HKy1, BKz1, BKz2, HB⟩ := hrel
  cases gk with
  | zero => exact absurd HA.out (by simp [spec_l9Thread.l0])
  | succ k1 =>
   have H := HA.out
   clear HA
   simp only [spec_l9Thread.l0] at H
   revert H; refine iN (fun c13b0 H => ?_) (fun c13b0 H => ?_)
   ·revert H; refine eN (fun c32b0 c32b1 H => ?_) (fun c32b0 c32b1 H => ?_)
    ·obtain rfl := sI H
     have hnbx1 := NBz1.out
     have hncx1 := NBz2.out
     have hczx1 := cZ8 BKz1.out
     have hczx9 := cZ5 BKz2.out
     go_wp2
     repeat (go_quiet (fail); try go_wp2)
     go_ret
     exact ⟨rE, (hX HB.out)⟩
    by_cases c33 : ((rd_T97 l0_2 a1).f2) = true
    case neg =>
     rw [if_neg c33] at H
     have c33b0 : ((rd_T97 l0_2 a1).f2) = false := by simpa using c33
     clear c33
     obtain rfl := sI H
     have hnbx1 := NBz1.out
     have hncx1 := NBz2.out
     have hczx1 := cZ8 BKz1.out
     have hczx9 := cZ5 BKz2.out
     go_wp2
     repeat (go_quiet (fail); try go_wp2)
     go_ret
     exact ⟨rE, (hX HB.out)⟩
    rw [if_pos c33] at H
    have c33b0 : ((rd_T97 l0_2 a1).f2) = true := c33
    clear c33
    revert H; refine iN (fun c34b0 H => ?_) (fun c34b0 H => ?_)
    ·obtain rfl := sI H
     have hnbx1 := NBz1.out
     have hncx1 := NBz2.out
     have hczx1 := cZ8 BKz1.out
     have hczx9 := cZ5 BKz2.out
     go_wp2
     repeat (go_quiet (fail); try go_wp2)
     go_ret
     exact ⟨rE, (hX HB.out)⟩
    replace H := ifQ H; obtain ⟨c35b0, H⟩ := H
    replace H := ifQ H; obtain ⟨c36b0, H⟩ := H
    revert H; refine eN (fun c37b0 c37b1 H => ?_) (fun c37b0 c37b1 H => ?_)
    ·obtain rfl := sI H
     have hnbx1 := NBz1.out
     have hncx1 := NBz2.out
     have hczx1 := cZ8 BKz1.out
     have hczx9 := cZ5 BKz2.out
     obtain ⟨adx1, Ax1, cx1, ex1, px1, qx1, hxx1, HCx1, HRx1⟩ := at_T73c HR0_4 HB t104
     cases ex1
     go_wp2
     repeat (go_quiet (fail); try go_wp2)
     go_ret
     exact ⟨rE, (hX HB.out)⟩
    replace H := ifQ H; obtain ⟨c38b0, H⟩ := H
    replace H := ifQ H; obtain ⟨c39b0, H⟩ := H
    obtain rfl := sI H
    have hnbx1 := NBz1.out
    have hncx1 := NBz2.out
    have hczx1 := cZ8 BKz1.out
    have hczx9 := cZ5 BKz2.out
    obtain ⟨adx1, Ax1, cx1, ex1, px1, qx1, ⟨hxx1, hxx2, hxx3, hxx4, hxx5, hxx6, hxx7, hxx8, hxx9⟩, HCx1, HRx1⟩ := at_T73c HR0_4 HB t104
    cases ex1
    obtain ⟨adx2, Ax2, cx2, ex2, px2, qx2, ⟨hxx10, hxx11, hxx12, hxx13, hxx14, hxx15, hxx16, hxx17, hxx18⟩, HCx2, HRx2⟩ := at_T73c HR0_4 HB t104
    obtain rfl : adx1 = adx2 := (by injection ex2)
    have ea_ := Option.some.inj (hxx9.symm.trans hxx18)
    injection ea_ with ea_ en_ ec_
    subst ea_
    subst ec_
    clear en_
    obtain ⟨adx3, ex3, px3, qx3, hxx19⟩ := at_T69c HRz1 HB ((rd_T97 l0_2 a1).f1)
    cases ex3
    go_wp2
    repeat (go_quiet (fail); try go_wp2)
    go_ret
    exact ⟨rE, (hX HB.out)⟩
   replace H := ifQ H; obtain ⟨c14b0, H⟩ := H
   revert H; refine eN (fun c15b0 c15b1 H => ?_) (fun c15b0 c15b1 H => ?_)
   ·have H' := aM H
    clear H
    have hnbx1 := NBz1.out
    have hncx1 := NBz2.out
    have hczx1 := cZ8 BKz1.out
    obtain ⟨adx1, Ax1, cx1, ex1, px1, qx1, hxx1, HCx1, HRx1⟩ := at_T73c HR0_4 HB x8_1
    cases ex1
    go_wp2
    repeat (go_quiet (fail); try go_wp2)
    go_roundg k1
    case measure => have := HKy1.out; omega
    case rel => exact ⟨(x7_1), (wrap64 (x8_1 + 1)), rS, rS, H', ⟨by have := HKy1.out; omega⟩, ⟨(bX BKz1.out)⟩, ⟨(bX BKz2.out)⟩, ⟨(hX HB.out)⟩⟩
   revert H; refine iP (fun c16b0 H => ?_) (fun c16b0 H => ?_)
   ·have H' := aM H
    clear H
    have hnbx1 := NBz1.out
    have hncx1 := NBz2.out
    have hczx1 := cZ8 BKz1.out
    obtain ⟨adx1, Ax1, cx1, ex1, px1, qx1, ⟨hxx1, hxx2, hxx3, hxx4, hxx5, hxx6, hxx7, hxx8, hxx9⟩, HCx1, HRx1⟩ := at_T73c HR0_4 HB x8_1
    cases ex1
    obtain ⟨adx2, Ax2, cx2, ex2, px2, qx2, ⟨hxx10, hxx11, hxx12, hxx13, hxx14, hxx15, hxx16, hxx17, hxx18⟩, HCx2, HRx2⟩ := at_T73c HR0_4 HB x8_1
    obtain rfl : adx1 = adx2 := (by injection ex2)
    have ea_ := Option.some.inj (hxx9.symm.trans hxx18)
    injection ea_ with ea_ en_ ec_
    subst ea_
    subst ec_
    clear en_
    go_wp2
    repeat (go_quiet (fail); try go_wp2)
    go_roundg k1
    case measure => have := HKy1.out; omega
    case rel => exact ⟨(wrap64 (x7_1 + 1)), (wrap64 (x8_1 + 1)), rS, rS, H', ⟨by have := HKy1.out; omega⟩, ⟨(bX BKz1.out)⟩, ⟨(bX BKz2.out)⟩, ⟨(hX HB.out)⟩⟩
   by_cases c19 : ((rd_T97 l0_2 a1).f2) = true
   case neg =>
    rw [if_neg c19] at H
    have c19b0 : ((rd_T97 l0_2 a1).f2) = false := by simpa using c19
    clear c19
    obtain rfl := sI H
    have hnbx1 := NBz1.out
    have hncx1 := NBz2.out
    have hczx1 := cZ8 BKz1.out
    obtain ⟨adx1, Ax1, cx1, ex1, px1, qx1, ⟨hxx1, hxx2, hxx3, hxx4, hxx5, hxx6, hxx7, hxx8, hxx9⟩, HCx1, HRx1⟩ := at_T73c HR0_4 HB x8_1
    cases ex1
    obtain ⟨adx2, Ax2, cx2, ex2, px2, qx2, ⟨hxx10, hxx11, hxx12, hxx13, hxx14, hxx15, hxx16, hxx17, hxx18⟩, HCx2, HRx2⟩ := at_T73c HR0_4 HB x8_1
    obtain rfl : adx1 = adx2 := (by injection ex2)
    have ea_ := Option.some.inj (hxx9.symm.trans hxx18)
    injection ea_ with ea_ en_ ec_
    subst ea_
    subst ec_
    clear en_
    have hczx9 := cZ5 BKz2.out
    go_wp2
    repeat (go_quiet (fail); try go_wp2)
    go_ret
    exact ⟨rE, (hX HB.out)⟩
   rw [if_pos c19] at H
   have c19b0 : ((rd_T97 l0_2 a1).f2) = true := c19
   clear c19
   revert H; refine eN (fun c20b0 c20b1 H => ?_) (fun c20b0 c20b1 H => ?_)
   ·obtain rfl := sI H
    have hnbx1 := NBz1.out
    have hncx1 := NBz2.out
    have hczx1 := cZ8 BKz1.out
    obtain ⟨adx1, Ax1, cx1, ex1, px1, qx1, ⟨hxx1, hxx2, hxx3, hxx4, hxx5, hxx6, hxx7, hxx8, hxx9⟩, HCx1, HRx1⟩ := at_T73c HR0_4 HB x8_1
    cases ex1
    obtain ⟨adx2, Ax2, cx2, ex2, px2, qx2, ⟨hxx10, hxx11, hxx12, hxx13, hxx14, hxx15, hxx16, hxx17, hxx18⟩, HCx2, HRx2⟩ := at_T73c HR0_4 HB x8_1
    obtain rfl : adx1 = adx2 := (by injection ex2)
    have ea_ := Option.some.inj (hxx9.symm.trans hxx18)
    injection ea_ with ea_ en_ ec_
    subst ea_
    subst ec_
    clear en_
    have hczx9 := cZ5 BKz2.out
    go_wp2
    repeat (go_quiet (fail); try go_wp2)
    go_ret
    exact ⟨rE, (hX HB.out)⟩
   have H' := aM H
   clear H
   have hnbx1 := NBz1.out
   have hncx1 := NBz2.out
   have hczx1 := cZ8 BKz1.out
   obtain ⟨adx1, Ax1, cx1, ex1, px1, qx1, ⟨hxx1, hxx2, hxx3, hxx4, hxx5, hxx6, hxx7, hxx8, hxx9⟩, HCx1, HRx1⟩ := at_T73c HR0_4 HB x8_1
   cases ex1
   obtain ⟨adx2, Ax2, cx2, ex2, px2, qx2, ⟨hxx10, hxx11, hxx12, hxx13, hxx14, hxx15, hxx16, hxx17, hxx18⟩, HCx2, HRx2⟩ := at_T73c HR0_4 HB x8_1
   obtain rfl : adx1 = adx2 := (by injection ex2)
   have ea_ := Option.some.inj (hxx9.symm.trans hxx18)
   injection ea_ with ea_ en_ ec_
   subst ea_
   subst ec_
   clear en_
   have hczx9 := cZ5 BKz2.out
   generalize hvb_ : Value.bool ((rd_T97 l0_2 a1).f2) = vb_
   have HVb_ := aM hvb_
   clear hvb_
   go_wp2
   repeat (go_quiet (fail); try go_wp2)
   have hvb_ := HVb_.out
   clear HVb_
   subst hvb_
   go_roundg k1
   case measure => have := HKy1.out; omega
   case rel => exact ⟨(x7_1), (wrap64 (x8_1 + 1)), rS, rS, H', ⟨by have := HKy1.out; omega⟩, ⟨(bX BKz1.out)⟩, ⟨(bX BKz2.out)⟩, ⟨(hX HB.out)⟩⟩
end Go.Proofs.YtmljebgideecjaaGreat.P2
