/- A part of the proof of the law FnExactJudgeSo: texts of this seat, merged (words, printed functions of the program, plain lemmas). Conditions: none of its own. -/
import Derived.Shelf.Strings.Builder1
import Derived.Shelf.Strings.Builder2
import Derived.Shelf.Slices.Turned
import Derived.Ground.Names2Prog
import Derived.Shelf.Slices.Clone
import Derived.Test.YtmljebgideecjaaGreatProg
import Derived.Test.YtmljebgideecjaaGreatP2kFnExactJudgeSo1
import Derived.Test.YtmljebgideecjaaGreatP2kFnExactJudgeSo2
import Derived.Test.YtmljebgideecjaaGreatP2kFnExactJudgeSo3
import Derived.Test.YtmljebgideecjaaGreatP2kFnExactJudgeSo4
import Derived.Test.YtmljebgideecjaaGreatP2kFnExactJudgeSo5
import Derived.Test.YtmljebgideecjaaGreatP2kFnExactJudgeSo6
import Derived.Test.YtmljebgideecjaaGreatP2kFnExactJudgeSo19
import Derived.Test.YtmljebgideecjaaGreatP2kFnExactJudgeSo21
import Derived.Test.YtmljebgideecjaaGreatP2kFnExactJudgeSo22
import Derived.Test.YtmljebgideecjaaGreatP2kFnExactJudgeSo23
set_option linter.unusedSimpArgs false
set_option linter.unusedVariables false
set_option maxHeartbeats 8000000
set_option maxRecDepth 100000
namespace Go.Proofs.YtmljebgideecjaaGreat.P2
open Go.Proofs.YtmljebgideecjaaGreatZ Go.RowKit Go.Proofs.YtmljebgideecjaaGreatW.PrintWords Go.Proofs.YtmljebgideecjaaGreatW.PrintLast Go.Proofs.YtmljebgideecjaaGreatW.PrintMore
attribute [local go_sem] max2_int min2_int max_two min_two max_three min_three max_four min_four   -- for this text's walks alone
mutual
def impl_MachineOk.j0 : Nat → Int → Bool → List (S140) → List (S162) → List (S97) → Int → List (S73) → List Int → List Int → Int → Option (Bool)
 | 0, _, _, _, _, _, _, _, _, _, _ => none
 | k + 1, x3, x41, x102000, x102001, x102002, x102003, x102004, x102005, x102006, x102007 => if x41 = true then (some false) else (impl_MachineOk.l0 k x3 x102004 (x102004.length : Int) 0 x102000 x102001 x102002 x102003 x102004 x102005 x102006 x102007)
def impl_MachineOk.l0 : Nat → Int → List (S73) → Int → Int → List (S140) → List (S162) → List (S97) → Int → List (S73) → List Int → List Int → Int → Option (Bool)
 | 0, _, _, _, _, _, _, _, _, _, _, _, _ => none
 | k + 1, x3, x44, x45, x46, x102000, x102001, x102002, x102003, x102004, x102005, x102006, x102007 => if x46 < x45 then (if 0 ≤ x46 then (if x46 < (x44.length : Int) then ((impl_from.f ((rd_T73 x44 x46).f0) 0 (wrap64 (x3 - 1))).bind fun t107 => (if t107 = true then ((impl_OpOk.f k ((rd_T73 x44 x46).f1.f0) ((rd_T73 x44 x46).f1.f1) ((rd_T73 x44 x46).f1.f2)).bind fun t108 => (if t108 = true then ((impl_from.f ((rd_T73 x44 x46).f2) 0 x102003).bind fun t109 => (if t109 = true then ((impl_MachineOk_1.f ((rd_T73 x44 x46).f0) ((rd_T73 x44 x46).f1.f0) ((rd_T73 x44 x46).f1.f1) ((rd_T73 x44 x46).f1.f2) ((rd_T73 x44 x46).f2) ((rd_T73 x44 x46).f3) ((rd_T73 x44 x46).f4) ((rd_T73 x44 x46).f5.f0) ((rd_T73 x44 x46).f5.f1) ((rd_T73 x44 x46).f3) x102000 x102001 x102002 x102003 x102004 x102005 x102006 x102007).bind fun t110 => (if t110 = true then ((impl_MachineOk_1.f ((rd_T73 x44 x46).f0) ((rd_T73 x44 x46).f1.f0) ((rd_T73 x44 x46).f1.f1) ((rd_T73 x44 x46).f1.f2) ((rd_T73 x44 x46).f2) ((rd_T73 x44 x46).f3) ((rd_T73 x44 x46).f4) ((rd_T73 x44 x46).f5.f0) ((rd_T73 x44 x46).f5.f1) ((rd_T73 x44 x46).f4) x102000 x102001 x102002 x102003 x102004 x102005 x102006 x102007).bind fun t111 => (if t111 = true then (impl_MachineOk.l0 k x3 x44 x45 (wrap64 (x46 + 1)) x102000 x102001 x102002 x102003 x102004 x102005 x102006 x102007) else (some false))) else (some false))) else (some false))) else (some false))) else (some false))) else (none)) else (none)) else (impl_MachineOk.l1 k x3 x102002 (x102002.length : Int) 0 x102000 x102001 x102002 x102003 x102004 x102005 x102006 x102007)
def impl_MachineOk.l1 : Nat → Int → List (S97) → Int → Int → List (S140) → List (S162) → List (S97) → Int → List (S73) → List Int → List Int → Int → Option (Bool)
 | 0, _, _, _, _, _, _, _, _, _, _, _, _ => none
 | k + 1, x3, x88, x89, x90, x102000, x102001, x102002, x102003, x102004, x102005, x102006, x102007 => if x90 < x89 then (if 0 ≤ x90 then (if x90 < (x88.length : Int) then ((impl_ThreadOk.f k ((rd_T97 x88 x90).f0) ((rd_T97 x88 x90).f1) ((rd_T97 x88 x90).f2) ((rd_T97 x88 x90).f3) ((rd_T97 x88 x90).f4) x3).bind fun t115 => (if t115 = true then ((impl_callsOk.f k x102000 x102001 x102002 x102003 x102004 x102005 x102006 x102007 x90).bind fun t116 => (if t116 = true then (impl_MachineOk.l1 k x3 x88 x89 (wrap64 (x90 + 1)) x102000 x102001 x102002 x102003 x102004 x102005 x102006 x102007) else (some false))) else (some false))) else (none)) else (none)) else ((impl_orderOk.f k x102000 x102001 x102002 x102003 x102004 x102005 x102006 x102007).bind fun t112 => (some t112))
end
def impl_MachineOk.f (k : Nat) (l0_0 : List (S140)) (l0_1 : List (S162)) (l0_2 : List (S97)) (a0_3 : Int) (l0_4 : List (S73)) (l0_5 : List Int) (l0_6 : List Int) (a0_7 : Int) : Option (Bool) := (impl_MemOk.f k l0_0 l0_1).bind fun t102 => (if t102 = true then (if (l0_1.length : Int) = (l0_2.length : Int) then ((impl_from.f a0_3 0 100000).bind fun t103 => (if t103 = true then (if (l0_4.length : Int) > 40 then (impl_MachineOk.j0 k (l0_2.length : Int) true l0_0 l0_1 l0_2 a0_3 l0_4 l0_5 l0_6 a0_7) else ((impl_RowsOk.f k l0_6 a0_7).bind fun t104 => (impl_MachineOk.j0 k (l0_2.length : Int) (!t104) l0_0 l0_1 l0_2 a0_3 l0_4 l0_5 l0_6 a0_7))) else (impl_MachineOk.j0 k (l0_2.length : Int) true l0_0 l0_1 l0_2 a0_3 l0_4 l0_5 l0_6 a0_7))) else (impl_MachineOk.j0 k (l0_2.length : Int) true l0_0 l0_1 l0_2 a0_3 l0_4 l0_5 l0_6 a0_7)) else (impl_MachineOk.j0 k (l0_2.length : Int) true l0_0 l0_1 l0_2 a0_3 l0_4 l0_5 l0_6 a0_7))
theorem impl_MachineOk.calls (k : Nat) (A0_0 : Option Addr) (c0_0 : Nat) (l0_0 : List (S140)) (A0_1 : Option Addr) (c0_1 : Nat) (l0_1 : List (S162)) (A0_2 : Option Addr) (c0_2 : Nat) (l0_2 : List (S97)) (a0_3 : Int) (A0_4 : Option Addr) (c0_4 : Nat) (l0_4 : List (S73)) (A0_5 : Option Addr) (c0_5 : Nat) (l0_5 : List Int) (A0_6 : Option Addr) (c0_6 : Nat) (l0_6 : List Int) (a0_7 : Int) (r : Bool) (w : World) (hr0_0 : Kd.C k140 w A0_0 l0_0.length l0_0) (hc0_0 : l0_0.length ≤ c0_0) (hr0_1 : Kd.C k162 w A0_1 l0_1.length l0_1) (hc0_1 : l0_1.length ≤ c0_1) (hr0_2 : Kd.C k97 w A0_2 l0_2.length l0_2) (hc0_2 : l0_2.length ≤ c0_2) (hr0_4 : Kd.C k73 w A0_4 l0_4.length l0_4) (hc0_4 : l0_4.length ≤ c0_4) (hr0_5 : Kd.C (Kd.int .i64) w A0_5 l0_5.length l0_5) (hc0_5 : l0_5.length ≤ c0_5) (hr0_6 : Kd.C (Kd.int .i64) w A0_6 l0_6.length l0_6) (hc0_6 : l0_6.length ≤ c0_6) (h : impl_MachineOk.f k l0_0 l0_1 l0_2 a0_3 l0_4 l0_5 l0_6 a0_7 = some r) :
  Calls Tryz.prog 48 #[.agg #[.slice A0_0 l0_0.length c0_0, .slice A0_1 l0_1.length c0_1, .slice A0_2 l0_2.length c0_2, .int .i64 a0_3, .slice A0_4 l0_4.length c0_4, .slice A0_5 l0_5.length c0_5, .slice A0_6 l0_6.length c0_6, .int .i64 a0_7]] w fun e w' => e = .returned (.bool r) ∧ Below w.heap.size w w' := by
 have hu43 := Tryz.underlying43
 have hu38 := Tryz.underlying38
 have hu41 := Tryz.underlying41
 have hu73 := Tryz.underlying73
 have hu69 := Tryz.underlying69
 have hu97 := Tryz.underlying97
 have HR0_0 := aM hr0_0
 have HC0_0 := aM hc0_0
 clear hr0_0 hc0_0
 have HR0_1 := aM hr0_1
 have HC0_1 := aM hc0_1
 clear hr0_1 hc0_1
 have HR0_2 := aM hr0_2
 have HC0_2 := aM hc0_2
 clear hr0_2 hc0_2
 have HR0_4 := aM hr0_4
 have HC0_4 := aM hc0_4
 clear hr0_4 hc0_4
 have HR0_5 := aM hr0_5
 have HC0_5 := aM hc0_5
 clear hr0_5 hc0_5
 have HR0_6 := aM hr0_6
 have HC0_6 := aM hc0_6
 clear hr0_6 hc0_6
 have HB := aM (Below.refl w.heap.size w)
 have H := h
 unfold impl_MachineOk.f at H
 clear h
 have HC2 := aM H
 clear H
 go_enter Tryz.func48, Tryz.ntmps48
 go_upto_region 2 with ((with_reducible refine gate_dst (N := 1) rfl ?_); (try (refine gate_guard (by rfl) ?_; dsimp only)); refine boxF 1 #[.slice A0_0 l0_0.length c0_0, .slice A0_1 l0_1.length c0_1, .slice A0_2 l0_2.length c0_2, .int .i64 a0_3, .slice A0_4 l0_4.length c0_4, .slice A0_5 l0_5.length c0_5, .slice A0_6 l0_6.length c0_6, .int .i64 a0_7] 43 ?_; intro gbz1 hg wz1 hbox hb; have BKz1 := aM (hbox); have GWz1 := aG hg HB; have GEz1 := aG hg HB; replace HB := aS HB hb; clear hb hbox hg; have hczz1 := cZ8 BKz1.out)
 (try simp only [Act.put, List.setIfInBounds_toArray, List.set_cons_zero, List.set_cons_succ])
 go_cut [41] (fun vz1 wc => ∃ (kq : Nat) (x41_1 : Bool), vz1 = .bool x41_1 ∧ Aside0 (impl_MachineOk.j0 kq (l0_2.length : Int) x41_1 l0_0 l0_1 l0_2 a0_3 l0_4 l0_5 l0_6 a0_7 = some r) ∧ Aside0 (kq ≤ k) ∧ Aside0 (wc.heap[gbz1]? = some (.cells #[(.slice A0_0 l0_0.length c0_0), (.slice A0_1 l0_1.length c0_1), (.slice A0_2 l0_2.length c0_2), .int .i64 a0_3, (.slice A0_4 l0_4.length c0_4), (.slice A0_5 l0_5.length c0_5), (.slice A0_6 l0_6.length c0_6), .int .i64 a0_7] 43 (0, 0))) ∧ Aside0 (Below w.heap.size w wc))
 case first =>
  have H := HC2.out
  clear HC2
  replace H := bE H; obtain ⟨t102, A5, H⟩ := H
  cases t102
  case false =>
   rw [if_neg nft] at H
   have H' := aM H
   clear H
   have hczy1 := cZ8 BKz1.out
   go_wp2_with (refine gB 101 14 Tryz.func101 (impl_MemOk.calls _ _ _ _ _ _ _ _ _ (cC HR0_0.out HB.out) HC0_0.out (cC HR0_1.out HB.out) HC0_1.out A5.out) ?_; intro wy1 hb; replace BKz1 := aB BKz1 hb; replace HB := aS HB hb; clear hb)
   go_meet
   case rel => exact ⟨_, (true), rS, H', ⟨by first | omega | exact Nat.le_refl _⟩, ⟨(bX BKz1.out)⟩, ⟨(hX HB.out)⟩⟩
  rw [if_pos rfl] at H
  have hczy1 := cZ8 BKz1.out
  go_wp2_with (refine gB 101 14 Tryz.func101 (impl_MemOk.calls _ _ _ _ _ _ _ _ _ (cC HR0_0.out HB.out) HC0_0.out (cC HR0_1.out HB.out) HC0_1.out A5.out) ?_; intro wy1 hb; replace BKz1 := aB BKz1 hb; replace HB := aS HB hb; clear hb; have hczy9 := cZ8 BKz1.out; refine Stop.out ?_)
  refine ⟨?_⟩
  by_cases c7 : (l0_1.length : Int) = (l0_2.length : Int)
  case neg =>
   rw [if_neg c7] at H
   obtain ⟨c7b0, c7b1⟩ := eqF c7
   have c7b2 : (l0_1.length == l0_2.length) = false := by first | simpa using c7 | (simp at c7 ⊢; omega)
   (first | rw [c7b0] | (simp only [i64_w, i32_w]; rw [c7b0]) | skip)
   have H' := aM H
   clear H
   go_wp2
   go_meet
   case rel => exact ⟨_, (true), rS, H', ⟨by first | omega | exact Nat.le_refl _⟩, ⟨(bX BKz1.out)⟩, ⟨(hX HB.out)⟩⟩
  rw [if_pos c7] at H
  obtain ⟨c7b0, c7b1⟩ := eqT c7
  have c7b2 : (l0_1.length == l0_2.length) = true := by first | simpa using c7 | (simp at c7 ⊢; omega)
  clear c7
  (first | rw [c7b0] | (simp only [i64_w, i32_w]; rw [c7b0]) | skip)
  replace H := bE H; obtain ⟨t103, A8, H⟩ := H
  cases t103
  case false =>
   rw [if_neg nft] at H
   have H' := aM H
   clear H
   go_wp2_with (go_at_call 102; (with_reducible refine (impl_from.calls _ _ _ _ _ A8.out).mono ?_); rintro e w' ⟨rfl, ⟨nd, rfl⟩⟩)
   go_meet
   case rel => exact ⟨_, (true), rS, H', ⟨by first | omega | exact Nat.le_refl _⟩, ⟨(bX BKz1.out)⟩, ⟨(hX HB.out)⟩⟩
  rw [if_pos rfl] at H
  go_wp2_with (go_at_call 102; (with_reducible refine (impl_from.calls _ _ _ _ _ A8.out).mono ?_); rintro e w' ⟨rfl, ⟨nd, rfl⟩⟩; refine Stop.out ?_)
  refine ⟨?_⟩
  by_cases c10 : (l0_4.length : Int) > 40
  ·rw [if_pos c10] at H
   have c10b0 := decide_eq_true c10
   have c10b1 : decide (40 < l0_4.length) = true := decide_eq_true (by omega)
   clear c10
   have H' := aM H
   clear H
   go_wp2
   go_meet
   case rel => exact ⟨_, (true), rS, H', ⟨by first | omega | exact Nat.le_refl _⟩, ⟨(bX BKz1.out)⟩, ⟨(hX HB.out)⟩⟩
  rw [if_neg c10] at H
  have c10b0 := decide_eq_false c10
  have c10b1 : decide (40 < l0_4.length) = false := decide_eq_false (by omega)
  clear c10
  replace H := bE H; obtain ⟨t104, A14, H⟩ := H
  have H' := aM H
  clear H
  go_wp2_with (go_at_call 103; (with_reducible refine (impl_RowsOk.calls _ _ _ _ _ _ _ (cC HR0_6.out HB.out) HC0_6.out A14.out).mono ?_); rintro e wy2 ⟨rfl, hb⟩; replace BKz1 := aB BKz1 hb; replace HB := aS HB hb; clear hb)
  go_meet
  case rel => exact ⟨_, (!t104), rS, H', ⟨by first | omega | exact Nat.le_refl _⟩, ⟨(bX BKz1.out)⟩, ⟨(hX HB.out)⟩⟩
 case rest =>
  clear HC2
  try clear hczz1
  obtain ⟨kq, x41_1, rfl, HA, HJy1, BKz1, HB⟩ := hcut
  cases kq with
  | zero => exact absurd HA.out (by simp [impl_MachineOk.j0])
  | succ kj1 =>
   have H := HA.out
   clear HA
   simp only [impl_MachineOk.j0] at H
   cases x41_1
   case true =>
    rw [if_pos rfl] at H
    exact fR
   rw [if_neg nft] at H
   have H' := aM H
   clear H
   have hczx1 := cZ8 BKz1.out
   go_wp2
   go_loopg [46] kj1 (fun kq v46 w' => ∃ (x46_2 : Int), v46 = .int .i64 x46_2 ∧ Aside0 (impl_MachineOk.l0 kq (l0_2.length : Int) l0_4 (l0_4.length : Int) x46_2 l0_0 l0_1 l0_2 a0_3 l0_4 l0_5 l0_6 a0_7 = some r) ∧ Aside0 (kq ≤ kj1) ∧ Aside0 (w'.heap[gbz1]? = some (.cells #[(.slice A0_0 l0_0.length c0_0), (.slice A0_1 l0_1.length c0_1), (.slice A0_2 l0_2.length c0_2), .int .i64 a0_3, (.slice A0_4 l0_4.length c0_4), (.slice A0_5 l0_5.length c0_5), (.slice A0_6 l0_6.length c0_6), .int .i64 a0_7] 43 (0, 0))) ∧ Aside0 (Below w.heap.size w w'))
   case atStart => exact ⟨(0), rS, H', ⟨Nat.le_refl _⟩, ⟨(bX BKz1.out)⟩, ⟨(hX HB.out)⟩⟩
   case round =>
    clear H'
    try clear hczx1
    try clear hczz1
    obtain ⟨x46_2, rfl, HA, HKw1, BKz1, HB⟩ := hrel
    cases gk with
    | zero => exact absurd HA.out (by simp [impl_MachineOk.l0])
    | succ k2 =>
     have H := HA.out
     clear HA
     simp only [impl_MachineOk.l0] at H
     revert H; refine iN (fun c29b0 H => ?_) (fun c29b0 H => ?_)
     ·have H' := aM H
      clear H
      have hczv1 := cZ8 BKz1.out
      go_wp2
      go_loopg [90] k2 (fun kq v90 w' => ∃ (x90_3 : Int), v90 = .int .i64 x90_3 ∧ Aside0 (impl_MachineOk.l1 kq (l0_2.length : Int) l0_2 (l0_2.length : Int) x90_3 l0_0 l0_1 l0_2 a0_3 l0_4 l0_5 l0_6 a0_7 = some r) ∧ Aside0 (kq ≤ k2) ∧ Aside0 (w'.heap[gbz1]? = some (.cells #[(.slice A0_0 l0_0.length c0_0), (.slice A0_1 l0_1.length c0_1), (.slice A0_2 l0_2.length c0_2), .int .i64 a0_3, (.slice A0_4 l0_4.length c0_4), (.slice A0_5 l0_5.length c0_5), (.slice A0_6 l0_6.length c0_6), .int .i64 a0_7] 43 (0, 0))) ∧ Aside0 (Below w.heap.size w w'))
      case atStart => exact ⟨(0), rS, H', ⟨Nat.le_refl _⟩, ⟨(bX BKz1.out)⟩, ⟨(hX HB.out)⟩⟩
      case round =>
       clear H'
       try clear c29b0
       try clear hczx1
       try clear hczz1
       try clear hczv1
       obtain ⟨x90_3, rfl, HA, HKu1, BKz1, HB⟩ := hrel
       cases gk with
       | zero => exact absurd HA.out (by simp [impl_MachineOk.l1])
       | succ k3 =>
        have H := HA.out
        clear HA
        simp only [impl_MachineOk.l1] at H
        revert H; refine iN (fun c81b0 H => ?_) (fun c81b0 H => ?_)
        ·replace H := bE H; obtain ⟨t112, A104, H⟩ := H
         obtain rfl := sI H
         have hczt1 := cZ8 BKz1.out
         go_wp2_with (refine gB 108 107 Tryz.func108 (impl_orderOk.calls _ _ _ _ _ _ _ _ _ _ _ _ _ _ _ _ _ _ _ _ _ _ _ (cC HR0_0.out HB.out) HC0_0.out (cC HR0_1.out HB.out) HC0_1.out (cC HR0_2.out HB.out) HC0_2.out (cC HR0_4.out HB.out) HC0_4.out (cC HR0_5.out HB.out) HC0_5.out (cC HR0_6.out HB.out) HC0_6.out A104.out) ?_; intro wt1 hb; replace BKz1 := aB BKz1 hb; replace HB := aS HB hb; clear hb)
         go_ret
         exact ⟨rE, (hX HB.out)⟩
        replace H := ifQ H; obtain ⟨c82b0, H⟩ := H
        replace H := ifQ H; obtain ⟨c83b0, H⟩ := H
        replace H := bE H; obtain ⟨t115, A84, H⟩ := H
        obtain ⟨adt1, At1, ct1, At2, ct2, At3, ct3, et1, pt1, qt1, hxt1, HCt1, HRt1, HCt2, HRt2, HCt3, HRt3⟩ := at_T97c HR0_2 HB x90_3
        cases et1
        go_wp2_with ((with_reducible refine gate_dst (N := 8) rfl ?_); (try (refine gate_guard (by rfl) ?_; dsimp only)); refine boxF 8 #[.slice none 0 0, .int .i64 0, .bool false, .slice none 0 0, .slice none 0 0] 97 ?_; intro gbt1 hg wt1 hbox hb; have BKt1 := aM (hbox); have GWt1 := aG hg HB; have GEt1 := aG hg HB; have NBt1 := aL hg BKz1; have NBt2 := aR hg BKz1; replace BKz1 := aB BKz1 hb; replace HB := aS HB hb; clear hb hbox hg; have hnbt1 := NBt2.out; have hnct1 := NBt1.out; have hczt1 := cZ5 BKt1.out; refine Stop.out ?_)
        refine ⟨?_⟩
        cases t115
        case false =>
         rw [if_neg nft] at H
         obtain rfl := sI H
         go_wp2_with (refine gB 106 97 Tryz.func106 (impl_ThreadOk.calls k3 _ _ ((rd_T97 l0_2 x90_3).f0) ((rd_T97 l0_2 x90_3).f1) ((rd_T97 l0_2 x90_3).f2) _ _ ((rd_T97 l0_2 x90_3).f3) _ _ ((rd_T97 l0_2 x90_3).f4) (l0_2.length : Int) false _ (by exact Kd.C_below HRt1.out (hX HB.out)) HCt1.out (by exact Kd.C_below HRt2.out (hX HB.out)) HCt2.out (by exact Kd.C_below HRt3.out (hX HB.out)) HCt3.out A84.out) ?_; intro wt2 hb; replace BKz1 := aF BKz1 hb; replace BKt1 := aM (blk_below (g := gbt1) (o := .cells #[.slice At1 ((rd_T97 l0_2 x90_3).f0).length ct1, .int .i64 ((rd_T97 l0_2 x90_3).f1), .bool ((rd_T97 l0_2 x90_3).f2), .slice At2 ((rd_T97 l0_2 x90_3).f3).length ct2, .slice At3 ((rd_T97 l0_2 x90_3).f4).length ct3] 97 (0, 0)) (bP BKt1.out) hb); replace HB := aS HB hb; clear hb)
         go_ret
         exact ⟨rE, (hX HB.out)⟩
        rw [if_pos rfl] at H
        replace H := bE H; obtain ⟨t116, A86, H⟩ := H
        go_wp2_with (refine gB 106 97 Tryz.func106 (impl_ThreadOk.calls k3 _ _ ((rd_T97 l0_2 x90_3).f0) ((rd_T97 l0_2 x90_3).f1) ((rd_T97 l0_2 x90_3).f2) _ _ ((rd_T97 l0_2 x90_3).f3) _ _ ((rd_T97 l0_2 x90_3).f4) (l0_2.length : Int) true _ (by exact Kd.C_below HRt1.out (hX HB.out)) HCt1.out (by exact Kd.C_below HRt2.out (hX HB.out)) HCt2.out (by exact Kd.C_below HRt3.out (hX HB.out)) HCt3.out A84.out) ?_; intro wt2 hb; replace BKz1 := aF BKz1 hb; replace BKt1 := aM (blk_below (g := gbt1) (o := .cells #[.slice At1 ((rd_T97 l0_2 x90_3).f0).length ct1, .int .i64 ((rd_T97 l0_2 x90_3).f1), .bool ((rd_T97 l0_2 x90_3).f2), .slice At2 ((rd_T97 l0_2 x90_3).f3).length ct2, .slice At3 ((rd_T97 l0_2 x90_3).f4).length ct3] 97 (0, 0)) (bP BKt1.out) hb); replace HB := aS HB hb; clear hb; have hczt6 := cZ8 BKz1.out; refine Stop.out ?_)
        refine ⟨?_⟩
        cases t116
        case false =>
         rw [if_neg nft] at H
         obtain rfl := sI H
         go_wp2_with (go_at_call 107; (with_reducible refine (impl_callsOk.calls _ _ _ _ _ _ _ _ _ _ _ _ _ _ _ _ _ _ _ _ _ _ _ _ (cC HR0_0.out HB.out) HC0_0.out (cC HR0_1.out HB.out) HC0_1.out (cC HR0_2.out HB.out) HC0_2.out (cC HR0_4.out HB.out) HC0_4.out (cC HR0_5.out HB.out) HC0_5.out (cC HR0_6.out HB.out) HC0_6.out A86.out).mono ?_); rintro e wt3 ⟨rfl, hb⟩; replace BKz1 := aB BKz1 hb; replace BKt1 := aB BKt1 hb; replace HB := aS HB hb; clear hb)
         go_ret
         exact ⟨rE, (hX HB.out)⟩
        rw [if_pos rfl] at H
        have H' := aM H
        clear H
        go_wp2_with (go_at_call 107; (with_reducible refine (impl_callsOk.calls _ _ _ _ _ _ _ _ _ _ _ _ _ _ _ _ _ _ _ _ _ _ _ _ (cC HR0_0.out HB.out) HC0_0.out (cC HR0_1.out HB.out) HC0_1.out (cC HR0_2.out HB.out) HC0_2.out (cC HR0_4.out HB.out) HC0_4.out (cC HR0_5.out HB.out) HC0_5.out (cC HR0_6.out HB.out) HC0_6.out A86.out).mono ?_); rintro e wt3 ⟨rfl, hb⟩; replace BKz1 := aB BKz1 hb; replace BKt1 := aB BKt1 hb; replace HB := aS HB hb; clear hb)
        go_roundg k3
        case measure => have := HJy1.out; have := HKw1.out; have := HKu1.out; omega
        case rel => exact ⟨(wrap64 (x90_3 + 1)), rS, H', ⟨by have := HJy1.out; have := HKw1.out; have := HKu1.out; omega⟩, ⟨(bX BKz1.out)⟩, ⟨(hX HB.out)⟩⟩
     replace H := ifQ H; obtain ⟨c30b0, H⟩ := H
     replace H := ifQ H; obtain ⟨c31b0, H⟩ := H
     replace H := bE H; obtain ⟨t107, A32, H⟩ := H
     obtain ⟨adv1, Av1, cv1, ev1, pv1, qv1, hxv1, HCv1, HRv1⟩ := at_T73c HR0_4 HB x46_2
     cases ev1
     go_wp2_with ((with_reducible refine gate_dst (N := 6) rfl ?_); (try (refine gate_guard (by rfl) ?_; dsimp only)); refine boxF 6 #[.int .i64 0, .int .i64 0, .int .i64 0, .int .i64 0, .int .i64 0, .int .i64 0, .int .i64 0, .int .i64 0, .slice none 0 0] 73 ?_; intro gbv1 hg wv1 hbox hb; have BKv1 := aM (hbox); have GWv1 := aG hg HB; have GEv1 := aG hg HB; have NBv1 := aL hg BKz1; have NBv2 := aR hg BKz1; replace BKz1 := aB BKz1 hb; replace HB := aS HB hb; clear hb hbox hg; have hnbv1 := NBv2.out; have hncv1 := NBv1.out; have hczv1 := cZ9 BKv1.out; refine Stop.out ?_)
     refine ⟨?_⟩
     cases t107
     case false =>
      rw [if_neg nft] at H
      obtain rfl := sI H
      go_wp2_with (refine gD 102 54 Tryz.func102 (impl_from.calls _ _ _ _ _ A32.out) ?_; intro nd)
      go_ret
      exact ⟨rE, (hX HB.out)⟩
     rw [if_pos rfl] at H
     replace H := bE H; obtain ⟨t108, A34, H⟩ := H
     go_wp2_with (refine gD 102 54 Tryz.func102 (impl_from.calls _ _ _ _ _ A32.out) ?_; intro nd; refine Stop.out ?_)
     refine ⟨?_⟩
     cases t108
     case false =>
      rw [if_neg nft] at H
      obtain rfl := sI H
      go_wp2_with (go_at_call 105; (with_reducible refine (impl_OpOk.calls _ _ _ _ _ _ A34.out).mono ?_); rintro e wv2 ⟨rfl, hb⟩; replace BKz1 := aF BKz1 hb; replace BKv1 := aM (blk_below (g := gbv1) (o := .cells #[.int .i64 ((rd_T73 l0_4 x46_2).f0), .int .i64 ((rd_T73 l0_4 x46_2).f1.f0), .int .i64 ((rd_T73 l0_4 x46_2).f1.f1), .int .i64 ((rd_T73 l0_4 x46_2).f1.f2), .int .i64 ((rd_T73 l0_4 x46_2).f2), .int .i64 ((rd_T73 l0_4 x46_2).f3), .int .i64 ((rd_T73 l0_4 x46_2).f4), .int .i64 ((rd_T73 l0_4 x46_2).f5.f0), .slice Av1 ((rd_T73 l0_4 x46_2).f5.f1).length cv1] 73 (0, 0)) (bP BKv1.out) hb); replace HB := aS HB hb; clear hb)
      go_ret
      exact ⟨rE, (hX HB.out)⟩
     rw [if_pos rfl] at H
     replace H := bE H; obtain ⟨t109, A36, H⟩ := H
     go_wp2_with (go_at_call 105; (with_reducible refine (impl_OpOk.calls _ _ _ _ _ _ A34.out).mono ?_); rintro e wv2 ⟨rfl, hb⟩; replace BKz1 := aF BKz1 hb; replace BKv1 := aM (blk_below (g := gbv1) (o := .cells #[.int .i64 ((rd_T73 l0_4 x46_2).f0), .int .i64 ((rd_T73 l0_4 x46_2).f1.f0), .int .i64 ((rd_T73 l0_4 x46_2).f1.f1), .int .i64 ((rd_T73 l0_4 x46_2).f1.f2), .int .i64 ((rd_T73 l0_4 x46_2).f2), .int .i64 ((rd_T73 l0_4 x46_2).f3), .int .i64 ((rd_T73 l0_4 x46_2).f4), .int .i64 ((rd_T73 l0_4 x46_2).f5.f0), .slice Av1 ((rd_T73 l0_4 x46_2).f5.f1).length cv1] 73 (0, 0)) (bP BKv1.out) hb); replace HB := aS HB hb; clear hb; have hczv10 := cZ9 BKv1.out; have hczv19 := cZ8 BKz1.out; refine Stop.out ?_)
     refine ⟨?_⟩
     cases t109
     case false =>
      rw [if_neg nft] at H
      obtain rfl := sI H
      go_wp2_with (go_at_call 102; (with_reducible refine (impl_from.calls _ _ _ _ _ A36.out).mono ?_); rintro e w' ⟨rfl, ⟨nd, rfl⟩⟩)
      go_ret
      exact ⟨rE, (hX HB.out)⟩
     rw [if_pos rfl] at H
     replace H := bE H; obtain ⟨t110, A38, H⟩ := H
     go_wp2_with (go_at_call 102; (with_reducible refine (impl_from.calls _ _ _ _ _ A36.out).mono ?_); rintro e w' ⟨rfl, ⟨nd, rfl⟩⟩; refine Stop.out ?_)
     refine ⟨?_⟩
     cases t110
     case false =>
      rw [if_neg nft] at H
      obtain rfl := sI H
      go_wp2_with ((with_reducible refine gate_calleeT (t := 71) rfl ?_); (try (refine gate_guard (by rfl) ?_; dsimp only)); refine goesTC_ (some 75) 71 rfl rfl Tryz.func104 (by kernel_rfl) rfl #[.agg #[.int .i64 ((rd_T73 l0_4 x46_2).f0), .int .i64 ((rd_T73 l0_4 x46_2).f1.f0), .int .i64 ((rd_T73 l0_4 x46_2).f1.f1), .int .i64 ((rd_T73 l0_4 x46_2).f1.f2), .int .i64 ((rd_T73 l0_4 x46_2).f2), .int .i64 ((rd_T73 l0_4 x46_2).f3), .int .i64 ((rd_T73 l0_4 x46_2).f4), .int .i64 ((rd_T73 l0_4 x46_2).f5.f0), .slice Av1 ((rd_T73 l0_4 x46_2).f5.f1).length cv1], .int .i64 ((rd_T73 l0_4 x46_2).f3)] #[.pointer (some ⟨gbz1, 0, none⟩)] #[.agg #[.int .i64 ((rd_T73 l0_4 x46_2).f0), .int .i64 ((rd_T73 l0_4 x46_2).f1.f0), .int .i64 ((rd_T73 l0_4 x46_2).f1.f1), .int .i64 ((rd_T73 l0_4 x46_2).f1.f2), .int .i64 ((rd_T73 l0_4 x46_2).f2), .int .i64 ((rd_T73 l0_4 x46_2).f3), .int .i64 ((rd_T73 l0_4 x46_2).f4), .int .i64 ((rd_T73 l0_4 x46_2).f5.f0), .slice Av1 ((rd_T73 l0_4 x46_2).f5.f1).length cv1], .int .i64 ((rd_T73 l0_4 x46_2).f3), .pointer (some ⟨gbz1, 0, none⟩)] rfl rfl (by (try simp only [List.map_toArray, List.map_cons, List.map_nil]); first | done | rfl | (simp only [List.length_drop, List.length_take]; rfl)) rfl ?_; (with_reducible refine (impl_MachineOk_1.calls ((rd_T73 l0_4 x46_2).f0) ((rd_T73 l0_4 x46_2).f1.f0) ((rd_T73 l0_4 x46_2).f1.f1) ((rd_T73 l0_4 x46_2).f1.f2) ((rd_T73 l0_4 x46_2).f2) ((rd_T73 l0_4 x46_2).f3) ((rd_T73 l0_4 x46_2).f4) ((rd_T73 l0_4 x46_2).f5.f0) _ _ ((rd_T73 l0_4 x46_2).f5.f1) ((rd_T73 l0_4 x46_2).f3) gbz1 A0_0 c0_0 l0_0 A0_1 c0_1 l0_1 A0_2 c0_2 l0_2 a0_3 (some adv1) c0_4 l0_4 A0_5 c0_5 l0_5 A0_6 c0_6 l0_6 a0_7 false _ (cC HRv1.out HB.out) HCv1.out (cC HR0_0.out HB.out) HC0_0.out (cC HR0_1.out HB.out) HC0_1.out (cC HR0_2.out HB.out) HC0_2.out (cC HR0_4.out HB.out) HC0_4.out (cC HR0_5.out HB.out) HC0_5.out (cC HR0_6.out HB.out) HC0_6.out (by exact (bX BKz1.out)) A38.out).mono ?_); rintro e wv3 ⟨rfl, hb⟩; refine ⟨_, rfl, ?_⟩; replace BKz1 := aB BKz1 hb; replace BKv1 := aB BKv1 hb; replace HB := aS HB hb; clear hb)
      go_ret
      exact ⟨rE, (hX HB.out)⟩
     rw [if_pos rfl] at H
     replace H := bE H; obtain ⟨t111, A40, H⟩ := H
     go_wp2_with ((with_reducible refine gate_calleeT (t := 71) rfl ?_); (try (refine gate_guard (by rfl) ?_; dsimp only)); refine goesTC_ (some 75) 71 rfl rfl Tryz.func104 (by kernel_rfl) rfl #[.agg #[.int .i64 ((rd_T73 l0_4 x46_2).f0), .int .i64 ((rd_T73 l0_4 x46_2).f1.f0), .int .i64 ((rd_T73 l0_4 x46_2).f1.f1), .int .i64 ((rd_T73 l0_4 x46_2).f1.f2), .int .i64 ((rd_T73 l0_4 x46_2).f2), .int .i64 ((rd_T73 l0_4 x46_2).f3), .int .i64 ((rd_T73 l0_4 x46_2).f4), .int .i64 ((rd_T73 l0_4 x46_2).f5.f0), .slice Av1 ((rd_T73 l0_4 x46_2).f5.f1).length cv1], .int .i64 ((rd_T73 l0_4 x46_2).f3)] #[.pointer (some ⟨gbz1, 0, none⟩)] #[.agg #[.int .i64 ((rd_T73 l0_4 x46_2).f0), .int .i64 ((rd_T73 l0_4 x46_2).f1.f0), .int .i64 ((rd_T73 l0_4 x46_2).f1.f1), .int .i64 ((rd_T73 l0_4 x46_2).f1.f2), .int .i64 ((rd_T73 l0_4 x46_2).f2), .int .i64 ((rd_T73 l0_4 x46_2).f3), .int .i64 ((rd_T73 l0_4 x46_2).f4), .int .i64 ((rd_T73 l0_4 x46_2).f5.f0), .slice Av1 ((rd_T73 l0_4 x46_2).f5.f1).length cv1], .int .i64 ((rd_T73 l0_4 x46_2).f3), .pointer (some ⟨gbz1, 0, none⟩)] rfl rfl (by (try simp only [List.map_toArray, List.map_cons, List.map_nil]); first | done | rfl | (simp only [List.length_drop, List.length_take]; rfl)) rfl ?_; (with_reducible refine (impl_MachineOk_1.calls ((rd_T73 l0_4 x46_2).f0) ((rd_T73 l0_4 x46_2).f1.f0) ((rd_T73 l0_4 x46_2).f1.f1) ((rd_T73 l0_4 x46_2).f1.f2) ((rd_T73 l0_4 x46_2).f2) ((rd_T73 l0_4 x46_2).f3) ((rd_T73 l0_4 x46_2).f4) ((rd_T73 l0_4 x46_2).f5.f0) _ _ ((rd_T73 l0_4 x46_2).f5.f1) ((rd_T73 l0_4 x46_2).f3) gbz1 A0_0 c0_0 l0_0 A0_1 c0_1 l0_1 A0_2 c0_2 l0_2 a0_3 (some adv1) c0_4 l0_4 A0_5 c0_5 l0_5 A0_6 c0_6 l0_6 a0_7 true _ (cC HRv1.out HB.out) HCv1.out (cC HR0_0.out HB.out) HC0_0.out (cC HR0_1.out HB.out) HC0_1.out (cC HR0_2.out HB.out) HC0_2.out (cC HR0_4.out HB.out) HC0_4.out (cC HR0_5.out HB.out) HC0_5.out (cC HR0_6.out HB.out) HC0_6.out (by exact (bX BKz1.out)) A38.out).mono ?_); rintro e wv3 ⟨rfl, hb⟩; refine ⟨_, rfl, ?_⟩; replace BKz1 := aB BKz1 hb; replace BKv1 := aB BKv1 hb; replace HB := aS HB hb; clear hb; have hczv27 := cZ9 BKv1.out; refine Stop.out ?_)
     refine ⟨?_⟩
     cases t111
     case false =>
      rw [if_neg nft] at H
      obtain rfl := sI H
      go_wp2_with ((with_reducible refine gate_calleeT (t := 79) rfl ?_); (try (refine gate_guard (by rfl) ?_; dsimp only)); refine goesTC_ (some 83) 79 rfl rfl Tryz.func104 (by kernel_rfl) rfl #[.agg #[.int .i64 ((rd_T73 l0_4 x46_2).f0), .int .i64 ((rd_T73 l0_4 x46_2).f1.f0), .int .i64 ((rd_T73 l0_4 x46_2).f1.f1), .int .i64 ((rd_T73 l0_4 x46_2).f1.f2), .int .i64 ((rd_T73 l0_4 x46_2).f2), .int .i64 ((rd_T73 l0_4 x46_2).f3), .int .i64 ((rd_T73 l0_4 x46_2).f4), .int .i64 ((rd_T73 l0_4 x46_2).f5.f0), .slice Av1 ((rd_T73 l0_4 x46_2).f5.f1).length cv1], .int .i64 ((rd_T73 l0_4 x46_2).f4)] #[.pointer (some ⟨gbz1, 0, none⟩)] #[.agg #[.int .i64 ((rd_T73 l0_4 x46_2).f0), .int .i64 ((rd_T73 l0_4 x46_2).f1.f0), .int .i64 ((rd_T73 l0_4 x46_2).f1.f1), .int .i64 ((rd_T73 l0_4 x46_2).f1.f2), .int .i64 ((rd_T73 l0_4 x46_2).f2), .int .i64 ((rd_T73 l0_4 x46_2).f3), .int .i64 ((rd_T73 l0_4 x46_2).f4), .int .i64 ((rd_T73 l0_4 x46_2).f5.f0), .slice Av1 ((rd_T73 l0_4 x46_2).f5.f1).length cv1], .int .i64 ((rd_T73 l0_4 x46_2).f4), .pointer (some ⟨gbz1, 0, none⟩)] rfl rfl (by (try simp only [List.map_toArray, List.map_cons, List.map_nil]); first | done | rfl | (simp only [List.length_drop, List.length_take]; rfl)) rfl ?_; (with_reducible refine (impl_MachineOk_1.calls ((rd_T73 l0_4 x46_2).f0) ((rd_T73 l0_4 x46_2).f1.f0) ((rd_T73 l0_4 x46_2).f1.f1) ((rd_T73 l0_4 x46_2).f1.f2) ((rd_T73 l0_4 x46_2).f2) ((rd_T73 l0_4 x46_2).f3) ((rd_T73 l0_4 x46_2).f4) ((rd_T73 l0_4 x46_2).f5.f0) _ _ ((rd_T73 l0_4 x46_2).f5.f1) ((rd_T73 l0_4 x46_2).f4) gbz1 A0_0 c0_0 l0_0 A0_1 c0_1 l0_1 A0_2 c0_2 l0_2 a0_3 (some adv1) c0_4 l0_4 A0_5 c0_5 l0_5 A0_6 c0_6 l0_6 a0_7 false _ (cC HRv1.out HB.out) HCv1.out (cC HR0_0.out HB.out) HC0_0.out (cC HR0_1.out HB.out) HC0_1.out (cC HR0_2.out HB.out) HC0_2.out (cC HR0_4.out HB.out) HC0_4.out (cC HR0_5.out HB.out) HC0_5.out (cC HR0_6.out HB.out) HC0_6.out (by exact (bX BKz1.out)) A40.out).mono ?_); rintro e wv4 ⟨rfl, hb⟩; refine ⟨_, rfl, ?_⟩; replace BKz1 := aB BKz1 hb; replace BKv1 := aB BKv1 hb; replace HB := aS HB hb; clear hb)
      go_ret
      exact ⟨rE, (hX HB.out)⟩
     rw [if_pos rfl] at H
     have H' := aM H
     clear H
     go_wp2_with ((with_reducible refine gate_calleeT (t := 79) rfl ?_); (try (refine gate_guard (by rfl) ?_; dsimp only)); refine goesTC_ (some 83) 79 rfl rfl Tryz.func104 (by kernel_rfl) rfl #[.agg #[.int .i64 ((rd_T73 l0_4 x46_2).f0), .int .i64 ((rd_T73 l0_4 x46_2).f1.f0), .int .i64 ((rd_T73 l0_4 x46_2).f1.f1), .int .i64 ((rd_T73 l0_4 x46_2).f1.f2), .int .i64 ((rd_T73 l0_4 x46_2).f2), .int .i64 ((rd_T73 l0_4 x46_2).f3), .int .i64 ((rd_T73 l0_4 x46_2).f4), .int .i64 ((rd_T73 l0_4 x46_2).f5.f0), .slice Av1 ((rd_T73 l0_4 x46_2).f5.f1).length cv1], .int .i64 ((rd_T73 l0_4 x46_2).f4)] #[.pointer (some ⟨gbz1, 0, none⟩)] #[.agg #[.int .i64 ((rd_T73 l0_4 x46_2).f0), .int .i64 ((rd_T73 l0_4 x46_2).f1.f0), .int .i64 ((rd_T73 l0_4 x46_2).f1.f1), .int .i64 ((rd_T73 l0_4 x46_2).f1.f2), .int .i64 ((rd_T73 l0_4 x46_2).f2), .int .i64 ((rd_T73 l0_4 x46_2).f3), .int .i64 ((rd_T73 l0_4 x46_2).f4), .int .i64 ((rd_T73 l0_4 x46_2).f5.f0), .slice Av1 ((rd_T73 l0_4 x46_2).f5.f1).length cv1], .int .i64 ((rd_T73 l0_4 x46_2).f4), .pointer (some ⟨gbz1, 0, none⟩)] rfl rfl (by (try simp only [List.map_toArray, List.map_cons, List.map_nil]); first | done | rfl | (simp only [List.length_drop, List.length_take]; rfl)) rfl ?_; (with_reducible refine (impl_MachineOk_1.calls ((rd_T73 l0_4 x46_2).f0) ((rd_T73 l0_4 x46_2).f1.f0) ((rd_T73 l0_4 x46_2).f1.f1) ((rd_T73 l0_4 x46_2).f1.f2) ((rd_T73 l0_4 x46_2).f2) ((rd_T73 l0_4 x46_2).f3) ((rd_T73 l0_4 x46_2).f4) ((rd_T73 l0_4 x46_2).f5.f0) _ _ ((rd_T73 l0_4 x46_2).f5.f1) ((rd_T73 l0_4 x46_2).f4) gbz1 A0_0 c0_0 l0_0 A0_1 c0_1 l0_1 A0_2 c0_2 l0_2 a0_3 (some adv1) c0_4 l0_4 A0_5 c0_5 l0_5 A0_6 c0_6 l0_6 a0_7 true _ (cC HRv1.out HB.out) HCv1.out (cC HR0_0.out HB.out) HC0_0.out (cC HR0_1.out HB.out) HC0_1.out (cC HR0_2.out HB.out) HC0_2.out (cC HR0_4.out HB.out) HC0_4.out (cC HR0_5.out HB.out) HC0_5.out (cC HR0_6.out HB.out) HC0_6.out (by exact (bX BKz1.out)) A40.out).mono ?_); rintro e wv4 ⟨rfl, hb⟩; refine ⟨_, rfl, ?_⟩; replace BKz1 := aB BKz1 hb; replace BKv1 := aB BKv1 hb; replace HB := aS HB hb; clear hb)
     go_roundg k2
     case measure => have := HJy1.out; have := HKw1.out; omega
     case rel => exact ⟨(wrap64 (x46_2 + 1)), rS, H', ⟨by have := HJy1.out; have := HKw1.out; omega⟩, ⟨(bX BKz1.out)⟩, ⟨(hX HB.out)⟩⟩
end Go.Proofs.YtmljebgideecjaaGreat.P2
namespace Go.Proofs
open Go.Shelf
def Tryz.laysNm215_ren : Go.Shelf.Ren := ⟨fun | 15 => 121 | n => n, fun | 22 => 28 | 3 => 3 | 4 => 4 | n => n, fun | n => n⟩
theorem Tryz.laysNm215 : Go.Proofs.Lays2.n15 Tryz.prog Tryz.laysNm215_ren := {
  mixed := by kernel_rfl
  f15 := Tryz.func121.trans (congrArg some (by kernel_rfl))
  t3 := Tryz.underlying3
  a3 := Tryz.isAgg3
  z3 := Tryz.sizeOf3
  v3 := Tryz.zeroValue3
  t4 := Tryz.underlying4
  a4 := Tryz.isAgg4
  z4 := Tryz.sizeOf4
  v4 := Tryz.zeroValue4
  t22 := Tryz.underlying28
  a22 := Tryz.isAgg28
  z22 := Tryz.sizeOf28
  v22 := Tryz.zeroValue28
  i3 := by kernel_rfl }
open Go.RowKit Go.Lib in
theorem Tryz.slices_Clone_int (b off n c : Nat) (zs : List Int) (w : World) (hz : n ≤ zs.length) (hbig : n * 8 ≤ 140737488355328) (hc : ∀ j, j < zs.length → w.cell? ⟨b, off + j, none⟩ = some (.int .i64 (zs.getD j 0))) :
    Calls Tryz.prog 121 #[.slice (some ⟨b, off, none⟩) n c] w fun e w' => ∃ v', e = .returned v' ∧ w'.ownsRow w.heap.size 3 1 v' n ((zs.take n).map (Value.int .i64)) ∧ v' ≠ .slice none 0 0 ∧ Below w.heap.size w w' := Any.slices_Clone_int Tryz.laysNm215 b off n c zs w hz hbig hc
open Go.RowKit Go.Lib in
theorem Tryz.slices_Clone_int_nil (n c : Nat) (w : World) :
    Calls Tryz.prog 121 #[.slice none n c] w fun e w' => e = .returned (.slice none 0 0) ∧ w' = w := Any.slices_Clone_int_nil Tryz.laysNm215 n c w
open Go.RowKit Go.Lib in
theorem Tryz.slices_Clone_int_zero (a : Addr) (c : Nat) (w : World) :
    Calls Tryz.prog 121 #[.slice (some a) 0 c] w fun e w' => ∃ v', e = .returned v' ∧ w'.ownsRow w.heap.size 3 1 v' 0 [] ∧ v' ≠ .slice none 0 0 ∧ Below w.heap.size w w' := Any.slices_Clone_int_zero Tryz.laysNm215 a c w
end Go.Proofs
namespace Go.Proofs.YtmljebgideecjaaGreatZ
open Go.RowKit Go.Proofs.YtmljebgideecjaaGreatW.PrintWords Go.Proofs.YtmljebgideecjaaGreatW.PrintLast
theorem C_plain {α : Type} {enc : α → Value} {h1 : ∀ x, (enc x).oneCell' = true} {w : World} {A : Option Addr} {xs : List α} (h : (Kd.scalar enc h1).C w A xs.length xs) (hp : 0 < xs.length) :
    ∃ b o, A = some ⟨b, o, none⟩ ∧ b < w.heap.size ∧ ∀ (j : Nat) x, xs[j]? = some x → w.cell? ⟨b, o + j, none⟩ = some (enc x) := by
  obtain ⟨ad, rfl, hc⟩ := h.2.2 hp
  have hcell : ∀ (j : Nat) x, xs[j]? = some x → w.cell? (ad.add j) = some (enc x) := by
    intro j x hj
    obtain ⟨c, _, hK, hu⟩ := hc j x hj
    have hK' : c = [enc x] := hK
    subst hK'
    have := hu 0 (enc x) rfl
    have h1 : (Kd.scalar enc h1).sz = 1 := rfl
    rw [h1, Nat.mul_one, Nat.add_zero] at this
    exact this
  have h0 : w.cell? ad = some (enc xs[0]) := by
    have := hcell 0 xs[0] (List.getElem?_eq_getElem hp)
    simpa [Addr.add] using this
  have hs : ad.spot = none := by
    rcases hsp : ad.spot with _ | s
    · rfl
    · exfalso
      unfold World.cell? at h0
      rw [hsp] at h0
      split at h0 <;> simp at h0
  obtain ⟨b, o, s⟩ := ad
  dsimp only at hs
  subst hs
  refine ⟨b, o, rfl, World.block_lt_of_cell? w _ h0, fun j x hj => ?_⟩
  have := hcell j x hj
  rw [← this]
  congr 1
  unfold Addr.add
  by_cases hj0 : j = 0
  · subst hj0; rfl
  · simp [hj0]
end Go.Proofs.YtmljebgideecjaaGreatZ
namespace Go.Proofs.YtmljebgideecjaaGreat.P2
open Go.Proofs.YtmljebgideecjaaGreatZ Go.RowKit Go.Proofs.YtmljebgideecjaaGreatW.PrintWords Go.Proofs.YtmljebgideecjaaGreatW.PrintLast Go.Proofs.YtmljebgideecjaaGreatW.PrintMore
attribute [local go_sem] max2_int min2_int max_two min_two max_three min_three max_four min_four   -- for this text's walks alone
def slices_Clone_int_int.f (l0 : List Int) : Option (List Int) := if l0.length ≤ 17592186044416 then some l0 else none
theorem slices_Clone_int_int.calls (A0 : Option Addr) (c0 : Nat) (l0 : List Int) (r : List Int) (w : World) (hr0 : Kd.C (Kd.int .i64) w A0 l0.length l0) (hc0 : l0.length ≤ c0) (h : slices_Clone_int_int.f l0 = some r) :
  Calls Tryz.prog 121 #[.slice A0 l0.length c0] w fun e w' => ∃ v0_ : Value, e = .returned (v0_) ∧ Kd.R (Kd.int .i64) 3 w' w.heap.size (fun _ => True) v0_ r ∧ Below w.heap.size w w' := by
 unfold slices_Clone_int_int.f at h
 split at h
 ·rename_i hlen
  obtain rfl := Option.some.inj h
  cases l0 with
  | nil =>
   cases A0 with
   | none => exact (Go.Proofs.Tryz.slices_Clone_int_nil 0 c0 w).mono fun e w' ⟨he, hw⟩ => ⟨_, he, Kd.R_nil _ _ _ _ _, hw ▸ Below.refl _ _⟩
   | some a => exact (Go.Proofs.Tryz.slices_Clone_int_zero a c0 w).mono fun e w' ⟨v, he, ho, _, hb⟩ => ⟨v, he, Kd.R_of_own ho (fun _ _ => trivial), hb⟩
  | cons x xs =>
   obtain ⟨b, o, rfl, hb, hcell⟩ := Go.Proofs.YtmljebgideecjaaGreatZ.C_plain hr0 (by simp)
   refine (Go.Proofs.Tryz.slices_Clone_int b o (x :: xs).length c0 (x :: xs) w (Nat.le_refl _) (by omega) (fun j hj => ?_)).mono fun e w' ⟨v, he, ho, _, hb⟩ => ⟨v, he, Kd.R_of_own (by rw [List.take_length] at ho; exact ho) (fun _ _ => trivial), hb⟩
   have := hcell j ((x :: xs)[j]'hj) (List.getElem?_eq_getElem hj)
   rw [this, List.getD_eq_getElem?_getD, List.getElem?_eq_getElem hj]
   rfl
 simp at h
def impl_copyRows.f (l0_0 : List Int) (a0_1 : Int) : Option (List Int × Int) := (slices_Clone_int_int.f l0_0).bind fun t103 => (some (t103, a0_1))
theorem impl_copyRows.calls (A0_0 : Option Addr) (c0_0 : Nat) (l0_0 : List Int) (a0_1 : Int) (r1 : List Int) (r2 : Int) (w : World) (hr0_0 : Kd.C (Kd.int .i64) w A0_0 l0_0.length l0_0) (hc0_0 : l0_0.length ≤ c0_0) (h : impl_copyRows.f l0_0 a0_1 = some (r1, r2)) :
  Calls Tryz.prog 68 #[.agg #[.slice A0_0 l0_0.length c0_0, .int .i64 a0_1]] w fun e w' => ∃ v0_ : Value, e = .returned (.agg #[v0_, .int .i64 r2]) ∧ Kd.R (Kd.int .i64) 3 w' w.heap.size (fun _ => True) v0_ r1 ∧ Below w.heap.size w w' := by
 have hu41 := Tryz.underlying41
 have HR0_0 := aM hr0_0
 have HC0_0 := aM hc0_0
 clear hr0_0 hc0_0
 have HB := aM (Below.refl w.heap.size w)
 have H := h
 unfold impl_copyRows.f at H
 clear h
 replace H := bE H; obtain ⟨t103, A2, H⟩ := H
 simp only [Option.some.injEq, Prod.mk.injEq] at H
 obtain ⟨rfl, rfl⟩ := H
 go_enter Tryz.func68, Tryz.ntmps68
 try go_wp2_with (first | (refine boxE 1 #[.slice A0_0 l0_0.length c0_0, .int .i64 a0_1] 41 ?_; intro gbz1 hg wz1 hbox hb; have BKz1 := aM (hbox); have GWz1 := aG hg HB; have GEz1 := aG hg HB; replace HB := aS HB hb; clear hb hbox hg) | (refine boxE 2 #[.slice none 0 0, .int .i64 0] 41 ?_; intro gbz2 hg wz2 hbox hb; have BKz2 := aM (hbox); have GWz2 := aG hg HB; have GEz2 := aG hg HB; have NBz1 := aL hg BKz1; have NBz2 := aR hg BKz1; replace BKz1 := aB BKz1 hb; replace HB := aS HB hb; clear hb hbox hg))
 replace BKz1 := aM (blk_drew BKz1.out)
 replace BKz2 := aM (blk_drew BKz2.out)
 replace HB := aM (below_drew1 HB.out)
 refine start_ (n := 7) (S := fun w' => w'.cell? ⟨gbz1, 0, none⟩ = some (.slice A0_0 l0_0.length c0_0) ∧ w'.cell? ⟨gbz1, 1, none⟩ = some (.int .i64 a0_1)) (ds := []) (bm 7 0) (by kernel_rfl) rfl (by kernel_rfl) ⟨cK BKz1.out 0, cK BKz1.out 1⟩ (fun hHeld => ?_)
 generalize wz2.drew = wz3 at BKz1 BKz2 HB hHeld ⊢
 refine pK 0 3 (bm 7 1) ?_
 refine pK 3 6 (bm 7 9) ?_
 refine tK 1 4 (bm 7 11) hHeld ?_
 refine tK 4 7 (bm 7 27) hHeld ?_
 refine oK 2 (some 5) (bm 7 31) (fun K hK => ?_)
 refine goesN Tryz.func121 #[.slice A0_0 l0_0.length c0_0] ?_
 refine (slices_Clone_int_int.calls _ _ l0_0 t103 _ (cC HR0_0.out HB.out) HC0_0.out A2.out).mono ?_
 rintro e wz4 ⟨vz1, rfl, hoz1, hb⟩
 refine ⟨_, rfl, ?_⟩
 have HOz1 := aM (Kd.R_lower hoz1 (below_size (hX HB.out)))
 replace BKz1 := aB BKz1 hb
 replace BKz2 := aB BKz2 hb
 replace HB := aS HB hb
 (try clear hb)
 (try clear hk)
 (try clear hoz1)
 obtain ⟨Aoz1, coz1, eoz1⟩ := Kd.R_slice HOz1.out
 (first | subst eoz1 | (injection eoz1 with f1_ f2_ f3_; have fz1 := f1_.symm; have fz2 := f3_.symm; clear f1_ f2_ f3_; subst fz1; subst fz2))
 refine hK.out _ _ ⟨cK BKz1.out 0, cK BKz1.out 1⟩ (fun hHeld => ?_)
 clear hK K
 refine nZ 5 ?_
 refine pK 5 8 (bm 7 63) ?_
 refine oK 6 none (bm 7 127) (fun K hK => ?_)
 have hsz1 : wz4.cell? ⟨gbz2, 0, none⟩ = some (.slice none 0 0) := (blk_cell BKz2.out 0).trans rfl
 have hfsz1 := blk_frozen BKz2.out 0
 have hnsz1 := NBz1.out
 have hmsz1 := NBz2.out
 have hsz2 : wz4.cell? ⟨gbz2, 1, none⟩ = some (.int .i64 0) := (blk_cell BKz2.out 1).trans rfl
 have hfsz2 := blk_frozen BKz2.out 1
 have hnsz2 := NBz1.out
 have hmsz2 := NBz2.out
 refine skip_ (w1 := ?_) (by rfl) rfl ?_ ?_
 rotate_left
 ·go_simp
  rfl
 refine hK.out _ _ ⟨(fA NBz1.out hHeld.1), (fA NBz1.out hHeld.2)⟩ (fun hHeld => ?_)
 clear hK K
 refine done_ (by kernel_rfl) ?_
 try go_wp2
 refine bodyPost_ret (results_cell_row rfl _ _ gbz2 41 #[.slice Aoz1 t103.length coz1, .int .i64 a0_1] (0, 0) _ rfl (bP BKz2.out) Tryz.underlying41 rfl (by kernel_rfl)) rfl ?_
 exact ⟨_, rE, (rT (h := by exact Kd.R_mono (Kd.R_far (p := ⟨gbz2, 1, none⟩) (Kd.R_far (p := ⟨gbz2, 0, none⟩) (Kd.R_types HOz1.out BKz2.out (by decide)) (fun _ hk => hk.2) (.slice Aoz1 t103.length coz1)) (fun _ hk => hk.2) (.int .i64 a0_1)) (fun _ hk => trivial))), (hX HB.out)⟩
def impl_KeyOf.f (k : Nat) (l0_0 : List Int) (a0_1 : Int) (a1 : Int) : Option (Int) := (slices_Index_int_int.f k l0_0 a1).bind fun t102 => (some t102)
theorem impl_KeyOf.calls (k : Nat) (A0_0 : Option Addr) (c0_0 : Nat) (l0_0 : List Int) (a0_1 : Int) (a1 : Int) (r : Int) (w : World) (hr0_0 : Kd.C (Kd.int .i64) w A0_0 l0_0.length l0_0) (hc0_0 : l0_0.length ≤ c0_0) (h : impl_KeyOf.f k l0_0 a0_1 a1 = some r) :
  Calls Tryz.prog 199 #[.agg #[.slice A0_0 l0_0.length c0_0, .int .i64 a0_1], .int .i64 a1] w fun e w' => e = .returned (.int .i64 r) ∧ Below w.heap.size w w' := by
 have hu41 := Tryz.underlying41
 have HR0_0 := aM hr0_0
 have HC0_0 := aM hc0_0
 clear hr0_0 hc0_0
 have HB := aM (Below.refl w.heap.size w)
 have H := h
 unfold impl_KeyOf.f at H
 clear h
 replace H := bE H; obtain ⟨t102, A3, H⟩ := H
 obtain rfl := sI H
 go_enter Tryz.func199, Tryz.ntmps199
 go_wp2_with (first | (refine boxE 2 #[.slice A0_0 l0_0.length c0_0, .int .i64 a0_1] 41 ?_; intro gbz1 hg wz1 hbox hb; have BKz1 := aM (hbox); have GWz1 := aG hg HB; have GEz1 := aG hg HB; replace HB := aS HB hb; clear hb hbox hg; have hczz1 := cZ2 BKz1.out) | (refine gD 209 8 Tryz.func209 (slices_Index_int_int.calls _ _ _ _ _ _ _ (cC HR0_0.out HB.out) HC0_0.out A3.out) ?_; intro nd))
 go_ret
 exact ⟨rE, (hX HB.out)⟩
def impl_made.f (l0_0 : List Int) (a0_1 : Int) : Option (Bool) := some (a0_1 == 5)
theorem impl_made.calls (A0_0 : Option Addr) (c0_0 : Nat) (l0_0 : List Int) (a0_1 : Int) (r : Bool) (w : World) (hr0_0 : Kd.C (Kd.int .i64) w A0_0 l0_0.length l0_0) (hc0_0 : l0_0.length ≤ c0_0) (h : impl_made.f l0_0 a0_1 = some r) :
  Calls Tryz.prog 200 #[.agg #[.slice A0_0 l0_0.length c0_0, .int .i64 a0_1]] w fun e w' => e = .returned (.bool r) ∧ Below w.heap.size w w' := by
 have hu41 := Tryz.underlying41
 have HR0_0 := aM hr0_0
 have HC0_0 := aM hc0_0
 clear hr0_0 hc0_0
 have HB := aM (Below.refl w.heap.size w)
 have H := h
 unfold impl_made.f at H
 clear h
 obtain rfl := sI H
 go_enter Tryz.func200, Tryz.ntmps200
 go_wp2_with (refine boxE 1 #[.slice A0_0 l0_0.length c0_0, .int .i64 a0_1] 41 ?_; intro gbz1 hg wz1 hbox hb; have BKz1 := aM (hbox); have GWz1 := aG hg HB; have GEz1 := aG hg HB; replace HB := aS HB hb; clear hb hbox hg; have hczz1 := cZ2 BKz1.out)
 go_ret
 exact ⟨rE, (hX HB.out)⟩
end Go.Proofs.YtmljebgideecjaaGreat.P2
