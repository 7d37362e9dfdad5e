/- A part of the proof of the law FnExactJudgeSo: texts of this seat, merged (words, printed functions of the program, plain lemmas). Conditions: none of its own. -/
import Derived.Test.YtmljebgideecjaaGreatP2kFnExactJudgeSo1
import Derived.Test.YtmljebgideecjaaGreatP2kFnExactJudgeSo4
import Derived.Test.YtmljebgideecjaaGreatP2kFnExactJudgeSo5
import Derived.Test.YtmljebgideecjaaGreatP2kFnExactJudgeSo6
import Derived.Test.YtmljebgideecjaaGreatP2kFnExactJudgeSo12
set_option linter.unusedSimpArgs false
set_option linter.unusedVariables false
set_option maxHeartbeats 8000000
set_option maxRecDepth 100000
namespace Go.Proofs.YtmljebgideecjaaGreat.P2
open Go.Proofs.YtmljebgideecjaaGreatZ Go.RowKit Go.Proofs.YtmljebgideecjaaGreatW.PrintWords Go.Proofs.YtmljebgideecjaaGreatW.PrintLast Go.Proofs.YtmljebgideecjaaGreatW.PrintMore
attribute [local go_sem] max2_int min2_int max_two min_two max_three min_three max_four min_four   -- for this text's walks alone
mutual
def spec_MemOk.j0 : Nat → Bool → List (S140) → List (S162) → Option (Bool)
 | 0, _, _, _ => none
 | k + 1, x18, x102000, x102001 => if x18 = true then (some false) else (spec_MemOk.l0 k 0 x102000 x102001)
def spec_MemOk.l0 : Nat → Int → List (S140) → List (S162) → Option (Bool)
 | 0, _, _, _ => none
 | k + 1, x3, x102000, x102001 => if x3 < (x102001.length : Int) then (if 0 ≤ x3 then ((spec_DescOk.f k ((rd_T162 x102001 x3).f0) ((rd_T162 x102001 x3).f1) ((rd_T162 x102001 x3).f2) ((rd_T162 x102001 x3).f3.f0) ((rd_T162 x102001 x3).f3.f1)).bind fun t104 => (if t104 = true then (spec_MemOk.l0 k (wrap64 (x3 + 1)) x102000 x102001) else (some false))) else (none)) else (spec_MemOk.l1 k 0 x102000 x102001)
def spec_MemOk.l1 : Nat → Int → List (S140) → List (S162) → Option (Bool)
 | 0, _, _, _ => none
 | k + 1, x4, x102000, x102001 => if x4 < (x102000.length : Int) then (if 0 ≤ x4 then ((spec_WordOk.f ((rd_T140 x102000 x4).f0) ((rd_T140 x102000 x4).f1) ((rd_T140 x102000 x4).f2) (x102001.length : Int)).bind fun t107 => (if t107 = true then (if ((rd_T140 x102000 x4).f1) > 0 then (if 0 ≤ (wrap64 (((rd_T140 x102000 x4).f1) - 1)) then (if (wrap64 (((rd_T140 x102000 x4).f1) - 1)) < (x102001.length : Int) then ((spec_Entries.f k ((rd_T162 x102001 (wrap64 (((rd_T140 x102000 x4).f1) - 1))).f0) ((rd_T162 x102001 (wrap64 (((rd_T140 x102000 x4).f1) - 1))).f1) ((rd_T162 x102001 (wrap64 (((rd_T140 x102000 x4).f1) - 1))).f2) ((rd_T162 x102001 (wrap64 (((rd_T140 x102000 x4).f1) - 1))).f3.f0) ((rd_T162 x102001 (wrap64 (((rd_T140 x102000 x4).f1) - 1))).f3.f1) x4).bind fun bt109 => (if bt109.2.2.2 = true then (if ((rd_T162 x102001 (wrap64 (((rd_T140 x102000 x4).f1) - 1))).f0) = ((rd_T140 x102000 x4).f2) then (spec_MemOk.l1 k (wrap64 (x4 + 1)) x102000 x102001) else (some false)) else (some false))) else (none)) else (none)) else (spec_MemOk.l1 k (wrap64 (x4 + 1)) x102000 x102001)) else (some false))) else (none)) else (some true)
end
def spec_MemOk.f (k : Nat) (l0_0 : List (S140)) (l0_1 : List (S162)) : Option (Bool) := if (l0_0.length : Int) = 20 then ((spec_l1In.f (l0_1.length : Int) 1 4).bind fun t102 => (spec_MemOk.j0 k (!t102) l0_0 l0_1)) else (spec_MemOk.j0 k true l0_0 l0_1)
theorem spec_MemOk.calls (k : Nat) (A0_0 : Option Addr) (c0_0 : Nat) (l0_0 : List (S140)) (A0_1 : Option Addr) (c0_1 : Nat) (l0_1 : List (S162)) (r : Bool) (w : World) (hr0_0 : Kd.C k140 w A0_0 l0_0.length l0_0) (hc0_0 : l0_0.length ≤ c0_0) (hr0_1 : Kd.C k162 w A0_1 l0_1.length l0_1) (hc0_1 : l0_1.length ≤ c0_1) (h : spec_MemOk.f k l0_0 l0_1 = some r) :
  Calls Tryz.prog 92 #[.agg #[.slice A0_0 l0_0.length c0_0, .slice A0_1 l0_1.length c0_1]] w fun e w' => e = .returned (.bool r) ∧ Below w.heap.size w w' := by
 have hu38 := Tryz.underlying38
 have hu162 := Tryz.underlying162
 have hu140 := Tryz.underlying140
 have hu165 := Tryz.underlying165
 have HR0_0 := aM hr0_0
 have HC0_0 := aM hc0_0
 clear hr0_0 hc0_0
 have HR0_1 := aM hr0_1
 have HC0_1 := aM hc0_1
 clear hr0_1 hc0_1
 have HB := aM (Below.refl w.heap.size w)
 have H := h
 unfold spec_MemOk.f at H
 clear h
 have HC2 := aM H
 clear H
 go_enter Tryz.func92, Tryz.ntmps92
 go_upto_region 1 with ((with_reducible refine gate_dst (N := 1) rfl ?_); (try (refine gate_guard (by rfl) ?_; dsimp only)); refine boxF 1 #[.slice A0_0 l0_0.length c0_0, .slice A0_1 l0_1.length c0_1] 38 ?_; intro gbz1 hg wz1 hbox hb; have BKz1 := aM (hbox); have GWz1 := aG hg HB; have GEz1 := aG hg HB; replace HB := aS HB hb; clear hb hbox hg)
 repeat (go_quiet (fail); go_upto_region 1 with ((with_reducible refine gate_dst (N := 1) rfl ?_); (try (refine gate_guard (by rfl) ?_; dsimp only)); refine boxF 1 #[.slice A0_0 l0_0.length c0_0, .slice A0_1 l0_1.length c0_1] 38 ?_; intro gbz1 hg wz1 hbox hb; have BKz1 := aM (hbox); have GWz1 := aG hg HB; have GEz1 := aG hg HB; replace HB := aS HB hb; clear hb hbox hg))
 (try simp only [Act.put, List.setIfInBounds_toArray, List.set_cons_zero, List.set_cons_succ])
 go_cut [18] (fun vz1 wc => ∃ (kq : Nat) (x18_1 : Bool), vz1 = .bool x18_1 ∧ Aside0 (spec_MemOk.j0 kq x18_1 l0_0 l0_1 = some r) ∧ Aside0 (kq ≤ k) ∧ Aside0 (wc.heap[gbz1]? = some (.cells #[(.slice A0_0 l0_0.length c0_0), (.slice A0_1 l0_1.length c0_1)] 38 (0, 0))) ∧ Aside0 (Below w.heap.size w wc))
 case first =>
  have H := HC2.out
  clear HC2
  revert H; refine eN (fun c4b0 c4b1 H => ?_) (fun c4b0 c4b1 H => ?_)
  ·(first | rw [c4b0] | (simp only [i64_w, i32_w]; rw [c4b0]) | skip)
   have H' := aM H
   clear H
   have hczy1 := cZ2 BKz1.out
   go_wp2
   repeat (go_quiet (fail); try go_wp2)
   go_meet
   case rel => exact ⟨_, (true), rS, H', ⟨by first | omega | exact Nat.le_refl _⟩, ⟨(bX BKz1.out)⟩, ⟨(hX HB.out)⟩⟩
  (first | rw [c4b0] | (simp only [i64_w, i32_w]; rw [c4b0]) | skip)
  replace H := bE H; obtain ⟨t102, A5, H⟩ := H
  have H' := aM H
  clear H
  have hczy1 := cZ2 BKz1.out
  go_wp2_with (go_at_call 43; (with_reducible refine (spec_l1In.calls _ _ _ _ _ A5.out).mono ?_); rintro e w' ⟨rfl, ⟨nd, rfl⟩⟩; (try first | exact ⟨rfl, _, World.drewN_drewN _ _ _⟩ | exact ⟨rfl, _, Eq.trans (World.drewN_drewN _ _ _) (congrArg (World.drewN _) (Nat.add_assoc _ _ _))⟩))
  repeat (go_quiet (fail); try go_wp2_with (go_at_call 43; (with_reducible refine (spec_l1In.calls _ _ _ _ _ A5.out).mono ?_); rintro e w' ⟨rfl, ⟨nd, rfl⟩⟩; (try first | exact ⟨rfl, _, World.drewN_drewN _ _ _⟩ | exact ⟨rfl, _, Eq.trans (World.drewN_drewN _ _ _) (congrArg (World.drewN _) (Nat.add_assoc _ _ _))⟩)))
  go_meet
  case rel => exact ⟨_, (!t102), rS, H', ⟨by first | omega | exact Nat.le_refl _⟩, ⟨(bX BKz1.out)⟩, ⟨(hX HB.out)⟩⟩
 case rest =>
  clear HC2
  obtain ⟨kq, x18_1, rfl, HA, HJy1, BKz1, HB⟩ := hcut
  cases kq with
  | zero => exact absurd HA.out (by simp [spec_MemOk.j0])
  | succ kj1 =>
   have H := HA.out
   clear HA
   simp only [spec_MemOk.j0] at H
   cases x18_1
   case true =>
    rw [if_pos rfl] at H
    obtain rfl := sI H
    go_wp2
    repeat (go_quiet (fail); try go_wp2)
    go_ret
    exact ⟨rE, (hX HB.out)⟩
   rw [if_neg nft] at H
   have H' := aM H
   clear H
   go_wp2
   repeat (go_quiet (fail); try go_wp2)
   go_loopg [3] kj1 (fun kq v3 w' => ∃ (x3_2 : Int), v3 = .int .i64 x3_2 ∧ Aside0 (spec_MemOk.l0 kq x3_2 l0_0 l0_1 = some r) ∧ Aside0 (kq ≤ kj1) ∧ Aside0 (w'.heap[gbz1]? = some (.cells #[(.slice A0_0 l0_0.length c0_0), (.slice A0_1 l0_1.length c0_1)] 38 (0, 0))) ∧ Aside0 (Below w.heap.size w w'))
   case atStart => exact ⟨(0), rS, H', ⟨Nat.le_refl _⟩, ⟨(bX BKz1.out)⟩, ⟨(hX HB.out)⟩⟩
   case round =>
    clear H'
    obtain ⟨x3_2, rfl, HA, HKw1, BKz1, HB⟩ := hrel
    cases gk with
    | zero => exact absurd HA.out (by simp [spec_MemOk.l0])
    | succ k2 =>
     have H := HA.out
     clear HA
     simp only [spec_MemOk.l0] at H
     revert H; refine iP (fun c9b0 H => ?_) (fun c9b0 H => ?_)
     ·replace H := ifP H; obtain ⟨c10, H⟩ := H
      have c10b0 := decide_eq_true c10
      clear c10
      replace H := bE H; obtain ⟨t104, A11, H⟩ := H
      cases t104
      case false =>
       rw [if_neg nft] at H
       obtain rfl := sI H
       have hczv1 := cZ2 BKz1.out
       obtain ⟨adv1, Av1, cv1, Av2, cv2, ev1, pv1, qv1, hxv1, HCv1, HRv1, HCv2, HRv2⟩ := at_T162c HR0_1 HB x3_2
       cases ev1
       go_wp2_with (go_at_call 156; (with_reducible refine (spec_DescOk.calls _ _ _ _ _ _ _ _ _ _ _ _ (cC HRv1.out HB.out) HCv1.out (cC HRv2.out HB.out) HCv2.out A11.out).mono ?_); rintro e wv1 ⟨rfl, hb⟩; replace BKz1 := aB BKz1 hb; replace HB := aS HB hb; clear hb)
       repeat (go_quiet (fail); try go_wp2_with (go_at_call 156; (with_reducible refine (spec_DescOk.calls _ _ _ _ _ _ _ _ _ _ _ _ (cC HRv1.out HB.out) HCv1.out (cC HRv2.out HB.out) HCv2.out A11.out).mono ?_); rintro e wv1 ⟨rfl, hb⟩; replace BKz1 := aB BKz1 hb; replace HB := aS HB hb; clear hb))
       go_ret
       exact ⟨rE, (hX HB.out)⟩
      rw [if_pos rfl] at H
      have H' := aM H
      clear H
      have hczv1 := cZ2 BKz1.out
      obtain ⟨adv1, Av1, cv1, Av2, cv2, ev1, pv1, qv1, hxv1, HCv1, HRv1, HCv2, HRv2⟩ := at_T162c HR0_1 HB x3_2
      cases ev1
      go_wp2_with (go_at_call 156; (with_reducible refine (spec_DescOk.calls _ _ _ _ _ _ _ _ _ _ _ _ (cC HRv1.out HB.out) HCv1.out (cC HRv2.out HB.out) HCv2.out A11.out).mono ?_); rintro e wv1 ⟨rfl, hb⟩; replace BKz1 := aB BKz1 hb; replace HB := aS HB hb; clear hb)
      repeat (go_quiet (fail); try go_wp2_with (go_at_call 156; (with_reducible refine (spec_DescOk.calls _ _ _ _ _ _ _ _ _ _ _ _ (cC HRv1.out HB.out) HCv1.out (cC HRv2.out HB.out) HCv2.out A11.out).mono ?_); rintro e wv1 ⟨rfl, hb⟩; replace BKz1 := aB BKz1 hb; replace HB := aS HB hb; clear hb))
      go_roundg k2
      case measure => have := HJy1.out; have := HKw1.out; omega
      case rel => exact ⟨(wrap64 (x3_2 + 1)), rS, H', ⟨by have := HJy1.out; have := HKw1.out; omega⟩, ⟨(bX BKz1.out)⟩, ⟨(hX HB.out)⟩⟩
     have H' := aM H
     clear H
     have hczv1 := cZ2 BKz1.out
     go_wp2
     repeat (go_quiet (fail); try go_wp2)
     go_loopg [4] k2 (fun kq v4 w' => ∃ (x4_3 : Int), v4 = .int .i64 x4_3 ∧ Aside0 (spec_MemOk.l1 kq x4_3 l0_0 l0_1 = some r) ∧ Aside0 (kq ≤ k2) ∧ Aside0 (w'.heap[gbz1]? = some (.cells #[(.slice A0_0 l0_0.length c0_0), (.slice A0_1 l0_1.length c0_1)] 38 (0, 0))) ∧ Aside0 (Below w.heap.size w w'))
     case atStart => exact ⟨(0), rS, H', ⟨Nat.le_refl _⟩, ⟨(bX BKz1.out)⟩, ⟨(hX HB.out)⟩⟩
     case round =>
      clear H'
      try clear c9b0
      try clear hczv1
      obtain ⟨x4_3, rfl, HA, HKu1, BKz1, HB⟩ := hrel
      cases gk with
      | zero => exact absurd HA.out (by simp [spec_MemOk.l1])
      | succ k3 =>
       have H := HA.out
       clear HA
       simp only [spec_MemOk.l1] at H
       revert H; refine iN (fun c18b0 H => ?_) (fun c18b0 H => ?_)
       ·obtain rfl := sI H
        have hczt1 := cZ2 BKz1.out
        go_wp2
        repeat (go_quiet (fail); try go_wp2)
        go_ret
        exact ⟨rE, (hX HB.out)⟩
       replace H := ifQ H; obtain ⟨c19b0, H⟩ := H
       replace H := bE H; obtain ⟨t107, A20, H⟩ := H
       have hczt1 := cZ2 BKz1.out
       obtain ⟨adt1, et1, pt1, qt1, hxt1⟩ := at_T140c HR0_0 HB x4_3
       cases et1
       go_wp2_with ((with_reducible refine gate_dst (N := 5) rfl ?_); (try (refine gate_guard (by rfl) ?_; dsimp only)); refine boxF 5 #[.int .i64 0, .int .i64 0, .int .i64 0] 140 ?_; intro gbt1 hg wt1 hbox hb; have BKt1 := aM (hbox); have GWt1 := aG hg HB; have GEt1 := aG hg HB; have NBt1 := aL hg BKz1; have NBt2 := aR hg BKz1; replace BKz1 := aB BKz1 hb; replace HB := aS HB hb; clear hb hbox hg; have hnbt1 := NBt2.out; have hnct1 := NBt1.out; have hczt3 := cZ3 BKt1.out; have hczt6 := cZ2 BKz1.out; refine Stop.out ?_)
       refine ⟨?_⟩
       cases t107
       case false =>
        rw [if_neg nft] at H
        obtain rfl := sI H
        go_wp2_with (go_at_call 157; (with_reducible refine (spec_WordOk.calls _ _ _ _ _ _ A20.out).mono ?_); rintro e wt2 ⟨rfl, hb⟩; replace BKz1 := aF BKz1 hb; replace BKt1 := aM (blk_below (g := gbt1) (o := .cells #[.int .i64 ((rd_T140 l0_0 x4_3).f0), .int .i64 ((rd_T140 l0_0 x4_3).f1), .int .i64 ((rd_T140 l0_0 x4_3).f2)] 140 (0, 0)) (bP BKt1.out) hb); replace HB := aS HB hb; clear hb)
        repeat (go_quiet (fail); try go_wp2_with (first | ((with_reducible refine gate_dst (N := 5) rfl ?_); (try (refine gate_guard (by rfl) ?_; dsimp only)); refine boxF 5 #[.int .i64 0, .int .i64 0, .int .i64 0] 140 ?_; intro gbt1 hg wt1 hbox hb; have BKt1 := aM (hbox); have GWt1 := aG hg HB; have GEt1 := aG hg HB; have NBt1 := aL hg BKz1; have NBt2 := aR hg BKz1; replace BKz1 := aB BKz1 hb; replace HB := aS HB hb; clear hb hbox hg; have hnbt1 := NBt2.out; have hnct1 := NBt1.out; have hczt3 := cZ3 BKt1.out; have hczt6 := cZ2 BKz1.out) | (go_at_call 157; (with_reducible refine (spec_WordOk.calls _ _ _ _ _ _ A20.out).mono ?_); rintro e wt2 ⟨rfl, hb⟩; replace BKz1 := aF BKz1 hb; replace BKt1 := aM (blk_below (g := gbt1) (o := .cells #[.int .i64 ((rd_T140 l0_0 x4_3).f0), .int .i64 ((rd_T140 l0_0 x4_3).f1), .int .i64 ((rd_T140 l0_0 x4_3).f2)] 140 (0, 0)) (bP BKt1.out) hb); replace HB := aS HB hb; clear hb)))
        go_ret
        exact ⟨rE, (hX HB.out)⟩
       rw [if_pos rfl] at H
       revert H; refine iN (fun c22b0 H => ?_) (fun c22b0 H => ?_)
       ·have H' := aM H
        clear H
        go_wp2_with (go_at_call 157; (with_reducible refine (spec_WordOk.calls _ _ _ _ _ _ A20.out).mono ?_); rintro e wt2 ⟨rfl, hb⟩; replace BKz1 := aF BKz1 hb; replace BKt1 := aM (blk_below (g := gbt1) (o := .cells #[.int .i64 ((rd_T140 l0_0 x4_3).f0), .int .i64 ((rd_T140 l0_0 x4_3).f1), .int .i64 ((rd_T140 l0_0 x4_3).f2)] 140 (0, 0)) (bP BKt1.out) hb); replace HB := aS HB hb; clear hb; have hczt8 := cZ3 BKt1.out)
        repeat (go_quiet (fail); try go_wp2_with (first | ((with_reducible refine gate_dst (N := 5) rfl ?_); (try (refine gate_guard (by rfl) ?_; dsimp only)); refine boxF 5 #[.int .i64 0, .int .i64 0, .int .i64 0] 140 ?_; intro gbt1 hg wt1 hbox hb; have BKt1 := aM (hbox); have GWt1 := aG hg HB; have GEt1 := aG hg HB; have NBt1 := aL hg BKz1; have NBt2 := aR hg BKz1; replace BKz1 := aB BKz1 hb; replace HB := aS HB hb; clear hb hbox hg; have hnbt1 := NBt2.out; have hnct1 := NBt1.out; have hczt3 := cZ3 BKt1.out; have hczt6 := cZ2 BKz1.out) | (go_at_call 157; (with_reducible refine (spec_WordOk.calls _ _ _ _ _ _ A20.out).mono ?_); rintro e wt2 ⟨rfl, hb⟩; replace BKz1 := aF BKz1 hb; replace BKt1 := aM (blk_below (g := gbt1) (o := .cells #[.int .i64 ((rd_T140 l0_0 x4_3).f0), .int .i64 ((rd_T140 l0_0 x4_3).f1), .int .i64 ((rd_T140 l0_0 x4_3).f2)] 140 (0, 0)) (bP BKt1.out) hb); replace HB := aS HB hb; clear hb; have hczt8 := cZ3 BKt1.out)))
        go_roundg k3
        case measure => have := HJy1.out; have := HKw1.out; have := HKu1.out; omega
        case rel => exact ⟨(wrap64 (x4_3 + 1)), rS, H', ⟨by have := HJy1.out; have := HKw1.out; have := HKu1.out; omega⟩, ⟨(bX BKz1.out)⟩, ⟨(hX HB.out)⟩⟩
       obtain ⟨ji23, hji23⟩ : ∃ j_ : Int, (wrap64 (((rd_T140 l0_0 x4_3).f1) - 1)) = j_ := ⟨_, rfl⟩
       replace H : (if 0 ≤ (ji23) then (if (ji23) < (l0_1.length : Int) then ((spec_Entries.f k3 ((rd_T162 l0_1 (ji23)).f0) ((rd_T162 l0_1 (ji23)).f1) ((rd_T162 l0_1 (ji23)).f2) ((rd_T162 l0_1 (ji23)).f3.f0) ((rd_T162 l0_1 (ji23)).f3.f1) x4_3).bind fun bt109 => (if bt109.2.2.2 = true then (if ((rd_T162 l0_1 (ji23)).f0) = ((rd_T140 l0_0 x4_3).f2) then (spec_MemOk.l1 k3 (wrap64 (x4_3 + 1)) l0_0 l0_1) else (some false)) else (some false))) else (none)) else (none)) = some r := by first | (rw [hji23] at H; exact H) | (simp only [hji23] at H ⊢; exact H)
       (try rw [hji23] at A20)
       have hji23w : (IntKind.i64.wrap (((rd_T140 l0_0 x4_3).f1) - 1)) = ji23 := (i64_w _).trans hji23
       replace H := ifQ H; obtain ⟨c24b0, H⟩ := H
       replace H := ifQ H; obtain ⟨c25b0, H⟩ := H
       replace H := bE H; obtain ⟨⟨t109, t110, t111, t112⟩, A26, H⟩ := H
       try dsimp only at H
       go_wp2_with (go_at_call 157; (with_reducible refine (spec_WordOk.calls _ _ _ _ _ _ A20.out).mono ?_); rintro e wt2 ⟨rfl, hb⟩; replace BKz1 := aF BKz1 hb; replace BKt1 := aM (blk_below (g := gbt1) (o := .cells #[.int .i64 ((rd_T140 l0_0 x4_3).f0), .int .i64 ((rd_T140 l0_0 x4_3).f1), .int .i64 ((rd_T140 l0_0 x4_3).f2)] 140 (0, 0)) (bP BKt1.out) hb); replace HB := aS HB hb; clear hb; have hczt8 := cZ3 BKt1.out; have hczt11 := cZ2 BKz1.out; have pt2 : 0 ≤ ((ji23) : Int) := odA; have qt2 : (ji23) < (l0_1.length : Int) := odA; obtain ⟨adt2, At1, ct1, At2, ct2, et2, hxt4, hxt5, hxt6, hxt7, hxt8, hlt1, hit1, hlt2, hit2⟩ := at_T162 HR0_1.out (ji23) pt2 qt2; cases et2; replace hxt4 := bc HB.out hxt4; replace hxt5 := bc HB.out hxt5; replace hxt6 := bc HB.out hxt6; replace hxt7 := bc HB.out hxt7; replace hxt8 := bc HB.out hxt8; have HRt1 := aM hit1; have HCt1 := aM hlt1; clear hit1 hlt1; have HRt2 := aM hit2; have HCt2 := aM hlt2; clear hit2 hlt2; replace pt2 := eq_true pt2; replace qt2 := eq_true qt2; refine Stop.out ?_)
       refine ⟨?_⟩
       cases t112
       case false =>
        rw [if_neg nft] at H
        obtain rfl := sI H
        go_wp2_with (first | (go_at_call 158; (with_reducible refine (spec_Entries.calls _ _ _ _ _ _ _ _ _ _ _ _ _ _ _ _ (cC HRt1.out HB.out) HCt1.out (cC HRt2.out HB.out) HCt2.out A26.out).mono ?_); rintro e wt3 ⟨rfl, hb⟩; replace BKz1 := aB BKz1 hb; replace BKt1 := aB BKt1 hb; replace HB := aS HB hb; clear hb) | ((with_reducible refine gate_dst (N := 6) rfl ?_); (try (refine gate_guard (by rfl) ?_; dsimp only)); refine boxF 6 #[.int .i64 0, .int .i64 0, .int .i64 0] 165 ?_; intro gbt2 hg wt4 hbox hb; have BKt2 := aM (hbox); have GWt2 := aG hg HB; have GEt2 := aG hg HB; have NBt3 := aL hg BKz1; have NBt4 := aR hg BKz1; have NBt5 := aL hg BKt1; have NBt6 := aR hg BKt1; replace BKz1 := aB BKz1 hb; replace BKt1 := aB BKt1 hb; replace HB := aS HB hb; clear hb hbox hg; have hnbt2 := NBt4.out; have hnct2 := NBt3.out; have hnbt3 := NBt6.out; have hnct3 := NBt5.out; have hczt13 := cZ3 BKt2.out))
        repeat (go_quiet (fail); try go_wp2_with (first | ((with_reducible refine gate_dst (N := 5) rfl ?_); (try (refine gate_guard (by rfl) ?_; dsimp only)); refine boxF 5 #[.int .i64 0, .int .i64 0, .int .i64 0] 140 ?_; intro gbt1 hg wt1 hbox hb; have BKt1 := aM (hbox); have GWt1 := aG hg HB; have GEt1 := aG hg HB; have NBt1 := aL hg BKz1; have NBt2 := aR hg BKz1; replace BKz1 := aB BKz1 hb; replace HB := aS HB hb; clear hb hbox hg; have hnbt1 := NBt2.out; have hnct1 := NBt1.out; have hczt3 := cZ3 BKt1.out; have hczt6 := cZ2 BKz1.out) | (go_at_call 157; (with_reducible refine (spec_WordOk.calls _ _ _ _ _ _ A20.out).mono ?_); rintro e wt2 ⟨rfl, hb⟩; replace BKz1 := aF BKz1 hb; replace BKt1 := aM (blk_below (g := gbt1) (o := .cells #[.int .i64 ((rd_T140 l0_0 x4_3).f0), .int .i64 ((rd_T140 l0_0 x4_3).f1), .int .i64 ((rd_T140 l0_0 x4_3).f2)] 140 (0, 0)) (bP BKt1.out) hb); replace HB := aS HB hb; clear hb; have hczt8 := cZ3 BKt1.out; have hczt11 := cZ2 BKz1.out; have pt2 : 0 ≤ ((ji23) : Int) := odA; have qt2 : (ji23) < (l0_1.length : Int) := odA; obtain ⟨adt2, At1, ct1, At2, ct2, et2, hxt4, hxt5, hxt6, hxt7, hxt8, hlt1, hit1, hlt2, hit2⟩ := at_T162 HR0_1.out (ji23) pt2 qt2; cases et2; replace hxt4 := bc HB.out hxt4; replace hxt5 := bc HB.out hxt5; replace hxt6 := bc HB.out hxt6; replace hxt7 := bc HB.out hxt7; replace hxt8 := bc HB.out hxt8; have HRt1 := aM hit1; have HCt1 := aM hlt1; clear hit1 hlt1; have HRt2 := aM hit2; have HCt2 := aM hlt2; clear hit2 hlt2; replace pt2 := eq_true pt2; replace qt2 := eq_true qt2) | (go_at_call 158; (with_reducible refine (spec_Entries.calls _ _ _ _ _ _ _ _ _ _ _ _ _ _ _ _ (cC HRt1.out HB.out) HCt1.out (cC HRt2.out HB.out) HCt2.out A26.out).mono ?_); rintro e wt3 ⟨rfl, hb⟩; replace BKz1 := aB BKz1 hb; replace BKt1 := aB BKt1 hb; replace HB := aS HB hb; clear hb) | ((with_reducible refine gate_dst (N := 6) rfl ?_); (try (refine gate_guard (by rfl) ?_; dsimp only)); refine boxF 6 #[.int .i64 0, .int .i64 0, .int .i64 0] 165 ?_; intro gbt2 hg wt4 hbox hb; have BKt2 := aM (hbox); have GWt2 := aG hg HB; have GEt2 := aG hg HB; have NBt3 := aL hg BKz1; have NBt4 := aR hg BKz1; have NBt5 := aL hg BKt1; have NBt6 := aR hg BKt1; replace BKz1 := aB BKz1 hb; replace BKt1 := aB BKt1 hb; replace HB := aS HB hb; clear hb hbox hg; have hnbt2 := NBt4.out; have hnct2 := NBt3.out; have hnbt3 := NBt6.out; have hnct3 := NBt5.out; have hczt13 := cZ3 BKt2.out)))
        go_ret
        exact ⟨by first | rfl | (simp [errW_none, errW_some] <;> rfl) | (simp only [← hji23]; first | rfl | (simp [errW_none, errW_some] <;> rfl)) | (simp [*, errW_none, errW_some] <;> rfl), (hX HB.out)⟩
       rw [if_pos rfl] at H
       go_wp2_with (first | (go_at_call 158; (with_reducible refine (spec_Entries.calls _ _ _ _ _ _ _ _ _ _ _ _ _ _ _ _ (cC HRt1.out HB.out) HCt1.out (cC HRt2.out HB.out) HCt2.out A26.out).mono ?_); rintro e wt3 ⟨rfl, hb⟩; replace BKz1 := aB BKz1 hb; replace BKt1 := aB BKt1 hb; replace HB := aS HB hb; clear hb) | ((with_reducible refine gate_dst (N := 6) rfl ?_); (try (refine gate_guard (by rfl) ?_; dsimp only)); refine boxF 6 #[.int .i64 0, .int .i64 0, .int .i64 0] 165 ?_; intro gbt2 hg wt4 hbox hb; have BKt2 := aM (hbox); have GWt2 := aG hg HB; have GEt2 := aG hg HB; have NBt3 := aL hg BKz1; have NBt4 := aR hg BKz1; have NBt5 := aL hg BKt1; have NBt6 := aR hg BKt1; replace BKz1 := aB BKz1 hb; replace BKt1 := aB BKt1 hb; replace HB := aS HB hb; clear hb hbox hg; have hnbt2 := NBt4.out; have hnct2 := NBt3.out; have hnbt3 := NBt6.out; have hnct3 := NBt5.out; have hczt13 := cZ3 BKt2.out; have hczt16 := cZ2 BKz1.out; have hczt18 := cZ3 BKt1.out; have pt3 : 0 ≤ ((ji23) : Int) := odA; have qt3 : (ji23) < (l0_1.length : Int) := odA; obtain ⟨adt3, At3, ct3, At4, ct4, et3, hxt9, hxt10, hxt11, hxt12, hxt13, hlt3, hit3, hlt4, hit4⟩ := at_T162 HR0_1.out (ji23) pt3 qt3; obtain rfl : adt2 = adt3 := (by injection et3); have hnt1 : adt2.block ≠ gbt2 := Nat.ne_of_lt (Nat.lt_of_lt_of_le (by have := World.block_lt_of_cell? _ _ hxt9; first | rwa [add_block] at this | exact this) GWt2.out); have hnt2 : adt2.block ≠ gbt2 := Nat.ne_of_lt (Nat.lt_of_lt_of_le (by have := World.block_lt_of_cell? _ _ hxt9; first | rwa [add_block] at this | exact this) GWt2.out); have hnt3 : adt2.block ≠ gbt2 := Nat.ne_of_lt (Nat.lt_of_lt_of_le (by have := World.block_lt_of_cell? _ _ hxt9; first | rwa [add_block] at this | exact this) GWt2.out); replace hxt9 := bc HB.out hxt9; replace hxt10 := bc HB.out hxt10; replace hxt11 := bc HB.out hxt11; replace hxt12 := bc HB.out hxt12; replace hxt13 := bc HB.out hxt13; have HRt3 := aM hit3; have HCt3 := aM hlt3; clear hit3 hlt3; have HRt4 := aM hit4; have HCt4 := aM hlt4; clear hit4 hlt4; replace hxt9 := (cell_far (p := ⟨gbt2, 0, none⟩) (by first | (rw [add_block]; exact hnt1) | (show (Addr.add _ _).block ≠ _; rw [add_block]; exact hnt1) | exact hnt1) (.int .i64 t109)).trans hxt9; replace hxt10 := (cell_far (p := ⟨gbt2, 0, none⟩) (by first | (rw [add_block]; exact hnt1) | (show (Addr.add _ _).block ≠ _; rw [add_block]; exact hnt1) | exact hnt1) (.int .i64 t109)).trans hxt10; replace hxt11 := (cell_far (p := ⟨gbt2, 0, none⟩) (by first | (rw [add_block]; exact hnt1) | (show (Addr.add _ _).block ≠ _; rw [add_block]; exact hnt1) | exact hnt1) (.int .i64 t109)).trans hxt11; replace hxt12 := (cell_far (p := ⟨gbt2, 0, none⟩) (by first | (rw [add_block]; exact hnt1) | (show (Addr.add _ _).block ≠ _; rw [add_block]; exact hnt1) | exact hnt1) (.int .i64 t109)).trans hxt12; replace hxt13 := (cell_far (p := ⟨gbt2, 0, none⟩) (by first | (rw [add_block]; exact hnt1) | (show (Addr.add _ _).block ≠ _; rw [add_block]; exact hnt1) | exact hnt1) (.int .i64 t109)).trans hxt13; replace hxt9 := (cell_far (p := ⟨gbt2, 1, none⟩) (by first | (rw [add_block]; exact hnt2) | (show (Addr.add _ _).block ≠ _; rw [add_block]; exact hnt2) | exact hnt2) (.int .i64 t110)).trans hxt9; replace hxt10 := (cell_far (p := ⟨gbt2, 1, none⟩) (by first | (rw [add_block]; exact hnt2) | (show (Addr.add _ _).block ≠ _; rw [add_block]; exact hnt2) | exact hnt2) (.int .i64 t110)).trans hxt10; replace hxt11 := (cell_far (p := ⟨gbt2, 1, none⟩) (by first | (rw [add_block]; exact hnt2) | (show (Addr.add _ _).block ≠ _; rw [add_block]; exact hnt2) | exact hnt2) (.int .i64 t110)).trans hxt11; replace hxt12 := (cell_far (p := ⟨gbt2, 1, none⟩) (by first | (rw [add_block]; exact hnt2) | (show (Addr.add _ _).block ≠ _; rw [add_block]; exact hnt2) | exact hnt2) (.int .i64 t110)).trans hxt12; replace hxt13 := (cell_far (p := ⟨gbt2, 1, none⟩) (by first | (rw [add_block]; exact hnt2) | (show (Addr.add _ _).block ≠ _; rw [add_block]; exact hnt2) | exact hnt2) (.int .i64 t110)).trans hxt13; replace hxt9 := (cell_far (p := ⟨gbt2, 2, none⟩) (by first | (rw [add_block]; exact hnt3) | (show (Addr.add _ _).block ≠ _; rw [add_block]; exact hnt3) | exact hnt3) (.int .i64 t111)).trans hxt9; replace hxt10 := (cell_far (p := ⟨gbt2, 2, none⟩) (by first | (rw [add_block]; exact hnt3) | (show (Addr.add _ _).block ≠ _; rw [add_block]; exact hnt3) | exact hnt3) (.int .i64 t111)).trans hxt10; replace hxt11 := (cell_far (p := ⟨gbt2, 2, none⟩) (by first | (rw [add_block]; exact hnt3) | (show (Addr.add _ _).block ≠ _; rw [add_block]; exact hnt3) | exact hnt3) (.int .i64 t111)).trans hxt11; replace hxt12 := (cell_far (p := ⟨gbt2, 2, none⟩) (by first | (rw [add_block]; exact hnt3) | (show (Addr.add _ _).block ≠ _; rw [add_block]; exact hnt3) | exact hnt3) (.int .i64 t111)).trans hxt12; replace hxt13 := (cell_far (p := ⟨gbt2, 2, none⟩) (by first | (rw [add_block]; exact hnt3) | (show (Addr.add _ _).block ≠ _; rw [add_block]; exact hnt3) | exact hnt3) (.int .i64 t111)).trans hxt13; (try have hy114_0 := fun (n_ : Nat) => (show (((((wt4.drewN n_).setCell ⟨gbt2, 0, none⟩ (.int .i64 t109)).setCell ⟨gbt2, 1, none⟩ (.int .i64 t110)).setCell ⟨gbt2, 2, none⟩ (.int .i64 t111))).cell? _ = some _ from hxt9)); (try have hy114_1 := fun (n_ : Nat) => (show (((((wt4.drewN n_).setCell ⟨gbt2, 0, none⟩ (.int .i64 t109)).setCell ⟨gbt2, 1, none⟩ (.int .i64 t110)).setCell ⟨gbt2, 2, none⟩ (.int .i64 t111))).cell? _ = some _ from hxt10)); (try have hy114_2 := fun (n_ : Nat) => (show (((((wt4.drewN n_).setCell ⟨gbt2, 0, none⟩ (.int .i64 t109)).setCell ⟨gbt2, 1, none⟩ (.int .i64 t110)).setCell ⟨gbt2, 2, none⟩ (.int .i64 t111))).cell? _ = some _ from hxt11)); (try have hy114_3 := fun (n_ : Nat) => (show (((((wt4.drewN n_).setCell ⟨gbt2, 0, none⟩ (.int .i64 t109)).setCell ⟨gbt2, 1, none⟩ (.int .i64 t110)).setCell ⟨gbt2, 2, none⟩ (.int .i64 t111))).cell? _ = some _ from hxt12)); (try have hy114_4 := fun (n_ : Nat) => (show (((((wt4.drewN n_).setCell ⟨gbt2, 0, none⟩ (.int .i64 t109)).setCell ⟨gbt2, 1, none⟩ (.int .i64 t110)).setCell ⟨gbt2, 2, none⟩ (.int .i64 t111))).cell? _ = some _ from hxt13)); clear hnt1; clear hnt2; clear hnt3; replace pt3 := eq_true pt3; replace qt3 := eq_true qt3; refine Stop.out ?_))
       refine ⟨?_⟩
       revert H; refine eN (fun c28b0 c28b1 H => ?_) (fun c28b0 c28b1 H => ?_)
       ·obtain rfl := sI H
        go_wp2
        repeat (go_quiet (fail); try go_wp2_with (first | ((with_reducible refine gate_dst (N := 5) rfl ?_); (try (refine gate_guard (by rfl) ?_; dsimp only)); refine boxF 5 #[.int .i64 0, .int .i64 0, .int .i64 0] 140 ?_; intro gbt1 hg wt1 hbox hb; have BKt1 := aM (hbox); have GWt1 := aG hg HB; have GEt1 := aG hg HB; have NBt1 := aL hg BKz1; have NBt2 := aR hg BKz1; replace BKz1 := aB BKz1 hb; replace HB := aS HB hb; clear hb hbox hg; have hnbt1 := NBt2.out; have hnct1 := NBt1.out; have hczt3 := cZ3 BKt1.out; have hczt6 := cZ2 BKz1.out) | (go_at_call 157; (with_reducible refine (spec_WordOk.calls _ _ _ _ _ _ A20.out).mono ?_); rintro e wt2 ⟨rfl, hb⟩; replace BKz1 := aF BKz1 hb; replace BKt1 := aM (blk_below (g := gbt1) (o := .cells #[.int .i64 ((rd_T140 l0_0 x4_3).f0), .int .i64 ((rd_T140 l0_0 x4_3).f1), .int .i64 ((rd_T140 l0_0 x4_3).f2)] 140 (0, 0)) (bP BKt1.out) hb); replace HB := aS HB hb; clear hb; have hczt8 := cZ3 BKt1.out; have hczt11 := cZ2 BKz1.out; have pt2 : 0 ≤ ((ji23) : Int) := odA; have qt2 : (ji23) < (l0_1.length : Int) := odA; obtain ⟨adt2, At1, ct1, At2, ct2, et2, hxt4, hxt5, hxt6, hxt7, hxt8, hlt1, hit1, hlt2, hit2⟩ := at_T162 HR0_1.out (ji23) pt2 qt2; cases et2; replace hxt4 := bc HB.out hxt4; replace hxt5 := bc HB.out hxt5; replace hxt6 := bc HB.out hxt6; replace hxt7 := bc HB.out hxt7; replace hxt8 := bc HB.out hxt8; have HRt1 := aM hit1; have HCt1 := aM hlt1; clear hit1 hlt1; have HRt2 := aM hit2; have HCt2 := aM hlt2; clear hit2 hlt2; replace pt2 := eq_true pt2; replace qt2 := eq_true qt2) | (go_at_call 158; (with_reducible refine (spec_Entries.calls _ _ _ _ _ _ _ _ _ _ _ _ _ _ _ _ (cC HRt1.out HB.out) HCt1.out (cC HRt2.out HB.out) HCt2.out A26.out).mono ?_); rintro e wt3 ⟨rfl, hb⟩; replace BKz1 := aB BKz1 hb; replace BKt1 := aB BKt1 hb; replace HB := aS HB hb; clear hb) | ((with_reducible refine gate_dst (N := 6) rfl ?_); (try (refine gate_guard (by rfl) ?_; dsimp only)); refine boxF 6 #[.int .i64 0, .int .i64 0, .int .i64 0] 165 ?_; intro gbt2 hg wt4 hbox hb; have BKt2 := aM (hbox); have GWt2 := aG hg HB; have GEt2 := aG hg HB; have NBt3 := aL hg BKz1; have NBt4 := aR hg BKz1; have NBt5 := aL hg BKt1; have NBt6 := aR hg BKt1; replace BKz1 := aB BKz1 hb; replace BKt1 := aB BKt1 hb; replace HB := aS HB hb; clear hb hbox hg; have hnbt2 := NBt4.out; have hnct2 := NBt3.out; have hnbt3 := NBt6.out; have hnct3 := NBt5.out; have hczt13 := cZ3 BKt2.out; have hczt16 := cZ2 BKz1.out; have hczt18 := cZ3 BKt1.out; have pt3 : 0 ≤ ((ji23) : Int) := odA; have qt3 : (ji23) < (l0_1.length : Int) := odA; obtain ⟨adt3, At3, ct3, At4, ct4, et3, hxt9, hxt10, hxt11, hxt12, hxt13, hlt3, hit3, hlt4, hit4⟩ := at_T162 HR0_1.out (ji23) pt3 qt3; obtain rfl : adt2 = adt3 := (by injection et3); have hnt1 : adt2.block ≠ gbt2 := Nat.ne_of_lt (Nat.lt_of_lt_of_le (by have := World.block_lt_of_cell? _ _ hxt9; first | rwa [add_block] at this | exact this) GWt2.out); have hnt2 : adt2.block ≠ gbt2 := Nat.ne_of_lt (Nat.lt_of_lt_of_le (by have := World.block_lt_of_cell? _ _ hxt9; first | rwa [add_block] at this | exact this) GWt2.out); have hnt3 : adt2.block ≠ gbt2 := Nat.ne_of_lt (Nat.lt_of_lt_of_le (by have := World.block_lt_of_cell? _ _ hxt9; first | rwa [add_block] at this | exact this) GWt2.out); replace hxt9 := bc HB.out hxt9; replace hxt10 := bc HB.out hxt10; replace hxt11 := bc HB.out hxt11; replace hxt12 := bc HB.out hxt12; replace hxt13 := bc HB.out hxt13; have HRt3 := aM hit3; have HCt3 := aM hlt3; clear hit3 hlt3; have HRt4 := aM hit4; have HCt4 := aM hlt4; clear hit4 hlt4; replace hxt9 := (cell_far (p := ⟨gbt2, 0, none⟩) (by first | (rw [add_block]; exact hnt1) | (show (Addr.add _ _).block ≠ _; rw [add_block]; exact hnt1) | exact hnt1) (.int .i64 t109)).trans hxt9; replace hxt10 := (cell_far (p := ⟨gbt2, 0, none⟩) (by first | (rw [add_block]; exact hnt1) | (show (Addr.add _ _).block ≠ _; rw [add_block]; exact hnt1) | exact hnt1) (.int .i64 t109)).trans hxt10; replace hxt11 := (cell_far (p := ⟨gbt2, 0, none⟩) (by first | (rw [add_block]; exact hnt1) | (show (Addr.add _ _).block ≠ _; rw [add_block]; exact hnt1) | exact hnt1) (.int .i64 t109)).trans hxt11; replace hxt12 := (cell_far (p := ⟨gbt2, 0, none⟩) (by first | (rw [add_block]; exact hnt1) | (show (Addr.add _ _).block ≠ _; rw [add_block]; exact hnt1) | exact hnt1) (.int .i64 t109)).trans hxt12; replace hxt13 := (cell_far (p := ⟨gbt2, 0, none⟩) (by first | (rw [add_block]; exact hnt1) | (show (Addr.add _ _).block ≠ _; rw [add_block]; exact hnt1) | exact hnt1) (.int .i64 t109)).trans hxt13; replace hxt9 := (cell_far (p := ⟨gbt2, 1, none⟩) (by first | (rw [add_block]; exact hnt2) | (show (Addr.add _ _).block ≠ _; rw [add_block]; exact hnt2) | exact hnt2) (.int .i64 t110)).trans hxt9; replace hxt10 := (cell_far (p := ⟨gbt2, 1, none⟩) (by first | (rw [add_block]; exact hnt2) | (show (Addr.add _ _).block ≠ _; rw [add_block]; exact hnt2) | exact hnt2) (.int .i64 t110)).trans hxt10; replace hxt11 := (cell_far (p := ⟨gbt2, 1, none⟩) (by first | (rw [add_block]; exact hnt2) | (show (Addr.add _ _).block ≠ _; rw [add_block]; exact hnt2) | exact hnt2) (.int .i64 t110)).trans hxt11; replace hxt12 := (cell_far (p := ⟨gbt2, 1, none⟩) (by first | (rw [add_block]; exact hnt2) | (show (Addr.add _ _).block ≠ _; rw [add_block]; exact hnt2) | exact hnt2) (.int .i64 t110)).trans hxt12; replace hxt13 := (cell_far (p := ⟨gbt2, 1, none⟩) (by first | (rw [add_block]; exact hnt2) | (show (Addr.add _ _).block ≠ _; rw [add_block]; exact hnt2) | exact hnt2) (.int .i64 t110)).trans hxt13; replace hxt9 := (cell_far (p := ⟨gbt2, 2, none⟩) (by first | (rw [add_block]; exact hnt3) | (show (Addr.add _ _).block ≠ _; rw [add_block]; exact hnt3) | exact hnt3) (.int .i64 t111)).trans hxt9; replace hxt10 := (cell_far (p := ⟨gbt2, 2, none⟩) (by first | (rw [add_block]; exact hnt3) | (show (Addr.add _ _).block ≠ _; rw [add_block]; exact hnt3) | exact hnt3) (.int .i64 t111)).trans hxt10; replace hxt11 := (cell_far (p := ⟨gbt2, 2, none⟩) (by first | (rw [add_block]; exact hnt3) | (show (Addr.add _ _).block ≠ _; rw [add_block]; exact hnt3) | exact hnt3) (.int .i64 t111)).trans hxt11; replace hxt12 := (cell_far (p := ⟨gbt2, 2, none⟩) (by first | (rw [add_block]; exact hnt3) | (show (Addr.add _ _).block ≠ _; rw [add_block]; exact hnt3) | exact hnt3) (.int .i64 t111)).trans hxt12; replace hxt13 := (cell_far (p := ⟨gbt2, 2, none⟩) (by first | (rw [add_block]; exact hnt3) | (show (Addr.add _ _).block ≠ _; rw [add_block]; exact hnt3) | exact hnt3) (.int .i64 t111)).trans hxt13; (try have hy114_0 := fun (n_ : Nat) => (show (((((wt4.drewN n_).setCell ⟨gbt2, 0, none⟩ (.int .i64 t109)).setCell ⟨gbt2, 1, none⟩ (.int .i64 t110)).setCell ⟨gbt2, 2, none⟩ (.int .i64 t111))).cell? _ = some _ from hxt9)); (try have hy114_1 := fun (n_ : Nat) => (show (((((wt4.drewN n_).setCell ⟨gbt2, 0, none⟩ (.int .i64 t109)).setCell ⟨gbt2, 1, none⟩ (.int .i64 t110)).setCell ⟨gbt2, 2, none⟩ (.int .i64 t111))).cell? _ = some _ from hxt10)); (try have hy114_2 := fun (n_ : Nat) => (show (((((wt4.drewN n_).setCell ⟨gbt2, 0, none⟩ (.int .i64 t109)).setCell ⟨gbt2, 1, none⟩ (.int .i64 t110)).setCell ⟨gbt2, 2, none⟩ (.int .i64 t111))).cell? _ = some _ from hxt11)); (try have hy114_3 := fun (n_ : Nat) => (show (((((wt4.drewN n_).setCell ⟨gbt2, 0, none⟩ (.int .i64 t109)).setCell ⟨gbt2, 1, none⟩ (.int .i64 t110)).setCell ⟨gbt2, 2, none⟩ (.int .i64 t111))).cell? _ = some _ from hxt12)); (try have hy114_4 := fun (n_ : Nat) => (show (((((wt4.drewN n_).setCell ⟨gbt2, 0, none⟩ (.int .i64 t109)).setCell ⟨gbt2, 1, none⟩ (.int .i64 t110)).setCell ⟨gbt2, 2, none⟩ (.int .i64 t111))).cell? _ = some _ from hxt13)); clear hnt1; clear hnt2; clear hnt3; replace pt3 := eq_true pt3; replace qt3 := eq_true qt3)))
        go_ret
        exact ⟨by first | rfl | (simp [errW_none, errW_some] <;> rfl) | (simp only [← hji23]; first | rfl | (simp [errW_none, errW_some] <;> rfl)) | (simp [*, errW_none, errW_some] <;> rfl), (hX HB.out)⟩
       have H' := aM H
       clear H
       go_wp2
       repeat (go_quiet (fail); try go_wp2_with (first | ((with_reducible refine gate_dst (N := 5) rfl ?_); (try (refine gate_guard (by rfl) ?_; dsimp only)); refine boxF 5 #[.int .i64 0, .int .i64 0, .int .i64 0] 140 ?_; intro gbt1 hg wt1 hbox hb; have BKt1 := aM (hbox); have GWt1 := aG hg HB; have GEt1 := aG hg HB; have NBt1 := aL hg BKz1; have NBt2 := aR hg BKz1; replace BKz1 := aB BKz1 hb; replace HB := aS HB hb; clear hb hbox hg; have hnbt1 := NBt2.out; have hnct1 := NBt1.out; have hczt3 := cZ3 BKt1.out; have hczt6 := cZ2 BKz1.out) | (go_at_call 157; (with_reducible refine (spec_WordOk.calls _ _ _ _ _ _ A20.out).mono ?_); rintro e wt2 ⟨rfl, hb⟩; replace BKz1 := aF BKz1 hb; replace BKt1 := aM (blk_below (g := gbt1) (o := .cells #[.int .i64 ((rd_T140 l0_0 x4_3).f0), .int .i64 ((rd_T140 l0_0 x4_3).f1), .int .i64 ((rd_T140 l0_0 x4_3).f2)] 140 (0, 0)) (bP BKt1.out) hb); replace HB := aS HB hb; clear hb; have hczt8 := cZ3 BKt1.out; have hczt11 := cZ2 BKz1.out; have pt2 : 0 ≤ ((ji23) : Int) := odA; have qt2 : (ji23) < (l0_1.length : Int) := odA; obtain ⟨adt2, At1, ct1, At2, ct2, et2, hxt4, hxt5, hxt6, hxt7, hxt8, hlt1, hit1, hlt2, hit2⟩ := at_T162 HR0_1.out (ji23) pt2 qt2; cases et2; replace hxt4 := bc HB.out hxt4; replace hxt5 := bc HB.out hxt5; replace hxt6 := bc HB.out hxt6; replace hxt7 := bc HB.out hxt7; replace hxt8 := bc HB.out hxt8; have HRt1 := aM hit1; have HCt1 := aM hlt1; clear hit1 hlt1; have HRt2 := aM hit2; have HCt2 := aM hlt2; clear hit2 hlt2; replace pt2 := eq_true pt2; replace qt2 := eq_true qt2) | (go_at_call 158; (with_reducible refine (spec_Entries.calls _ _ _ _ _ _ _ _ _ _ _ _ _ _ _ _ (cC HRt1.out HB.out) HCt1.out (cC HRt2.out HB.out) HCt2.out A26.out).mono ?_); rintro e wt3 ⟨rfl, hb⟩; replace BKz1 := aB BKz1 hb; replace BKt1 := aB BKt1 hb; replace HB := aS HB hb; clear hb) | ((with_reducible refine gate_dst (N := 6) rfl ?_); (try (refine gate_guard (by rfl) ?_; dsimp only)); refine boxF 6 #[.int .i64 0, .int .i64 0, .int .i64 0] 165 ?_; intro gbt2 hg wt4 hbox hb; have BKt2 := aM (hbox); have GWt2 := aG hg HB; have GEt2 := aG hg HB; have NBt3 := aL hg BKz1; have NBt4 := aR hg BKz1; have NBt5 := aL hg BKt1; have NBt6 := aR hg BKt1; replace BKz1 := aB BKz1 hb; replace BKt1 := aB BKt1 hb; replace HB := aS HB hb; clear hb hbox hg; have hnbt2 := NBt4.out; have hnct2 := NBt3.out; have hnbt3 := NBt6.out; have hnct3 := NBt5.out; have hczt13 := cZ3 BKt2.out; have hczt16 := cZ2 BKz1.out; have hczt18 := cZ3 BKt1.out; have pt3 : 0 ≤ ((ji23) : Int) := odA; have qt3 : (ji23) < (l0_1.length : Int) := odA; obtain ⟨adt3, At3, ct3, At4, ct4, et3, hxt9, hxt10, hxt11, hxt12, hxt13, hlt3, hit3, hlt4, hit4⟩ := at_T162 HR0_1.out (ji23) pt3 qt3; obtain rfl : adt2 = adt3 := (by injection et3); have hnt1 : adt2.block ≠ gbt2 := Nat.ne_of_lt (Nat.lt_of_lt_of_le (by have := World.block_lt_of_cell? _ _ hxt9; first | rwa [add_block] at this | exact this) GWt2.out); have hnt2 : adt2.block ≠ gbt2 := Nat.ne_of_lt (Nat.lt_of_lt_of_le (by have := World.block_lt_of_cell? _ _ hxt9; first | rwa [add_block] at this | exact this) GWt2.out); have hnt3 : adt2.block ≠ gbt2 := Nat.ne_of_lt (Nat.lt_of_lt_of_le (by have := World.block_lt_of_cell? _ _ hxt9; first | rwa [add_block] at this | exact this) GWt2.out); replace hxt9 := bc HB.out hxt9; replace hxt10 := bc HB.out hxt10; replace hxt11 := bc HB.out hxt11; replace hxt12 := bc HB.out hxt12; replace hxt13 := bc HB.out hxt13; have HRt3 := aM hit3; have HCt3 := aM hlt3; clear hit3 hlt3; have HRt4 := aM hit4; have HCt4 := aM hlt4; clear hit4 hlt4; replace hxt9 := (cell_far (p := ⟨gbt2, 0, none⟩) (by first | (rw [add_block]; exact hnt1) | (show (Addr.add _ _).block ≠ _; rw [add_block]; exact hnt1) | exact hnt1) (.int .i64 t109)).trans hxt9; replace hxt10 := (cell_far (p := ⟨gbt2, 0, none⟩) (by first | (rw [add_block]; exact hnt1) | (show (Addr.add _ _).block ≠ _; rw [add_block]; exact hnt1) | exact hnt1) (.int .i64 t109)).trans hxt10; replace hxt11 := (cell_far (p := ⟨gbt2, 0, none⟩) (by first | (rw [add_block]; exact hnt1) | (show (Addr.add _ _).block ≠ _; rw [add_block]; exact hnt1) | exact hnt1) (.int .i64 t109)).trans hxt11; replace hxt12 := (cell_far (p := ⟨gbt2, 0, none⟩) (by first | (rw [add_block]; exact hnt1) | (show (Addr.add _ _).block ≠ _; rw [add_block]; exact hnt1) | exact hnt1) (.int .i64 t109)).trans hxt12; replace hxt13 := (cell_far (p := ⟨gbt2, 0, none⟩) (by first | (rw [add_block]; exact hnt1) | (show (Addr.add _ _).block ≠ _; rw [add_block]; exact hnt1) | exact hnt1) (.int .i64 t109)).trans hxt13; replace hxt9 := (cell_far (p := ⟨gbt2, 1, none⟩) (by first | (rw [add_block]; exact hnt2) | (show (Addr.add _ _).block ≠ _; rw [add_block]; exact hnt2) | exact hnt2) (.int .i64 t110)).trans hxt9; replace hxt10 := (cell_far (p := ⟨gbt2, 1, none⟩) (by first | (rw [add_block]; exact hnt2) | (show (Addr.add _ _).block ≠ _; rw [add_block]; exact hnt2) | exact hnt2) (.int .i64 t110)).trans hxt10; replace hxt11 := (cell_far (p := ⟨gbt2, 1, none⟩) (by first | (rw [add_block]; exact hnt2) | (show (Addr.add _ _).block ≠ _; rw [add_block]; exact hnt2) | exact hnt2) (.int .i64 t110)).trans hxt11; replace hxt12 := (cell_far (p := ⟨gbt2, 1, none⟩) (by first | (rw [add_block]; exact hnt2) | (show (Addr.add _ _).block ≠ _; rw [add_block]; exact hnt2) | exact hnt2) (.int .i64 t110)).trans hxt12; replace hxt13 := (cell_far (p := ⟨gbt2, 1, none⟩) (by first | (rw [add_block]; exact hnt2) | (show (Addr.add _ _).block ≠ _; rw [add_block]; exact hnt2) | exact hnt2) (.int .i64 t110)).trans hxt13; replace hxt9 := (cell_far (p := ⟨gbt2, 2, none⟩) (by first | (rw [add_block]; exact hnt3) | (show (Addr.add _ _).block ≠ _; rw [add_block]; exact hnt3) | exact hnt3) (.int .i64 t111)).trans hxt9; replace hxt10 := (cell_far (p := ⟨gbt2, 2, none⟩) (by first | (rw [add_block]; exact hnt3) | (show (Addr.add _ _).block ≠ _; rw [add_block]; exact hnt3) | exact hnt3) (.int .i64 t111)).trans hxt10; replace hxt11 := (cell_far (p := ⟨gbt2, 2, none⟩) (by first | (rw [add_block]; exact hnt3) | (show (Addr.add _ _).block ≠ _; rw [add_block]; exact hnt3) | exact hnt3) (.int .i64 t111)).trans hxt11; replace hxt12 := (cell_far (p := ⟨gbt2, 2, none⟩) (by first | (rw [add_block]; exact hnt3) | (show (Addr.add _ _).block ≠ _; rw [add_block]; exact hnt3) | exact hnt3) (.int .i64 t111)).trans hxt12; replace hxt13 := (cell_far (p := ⟨gbt2, 2, none⟩) (by first | (rw [add_block]; exact hnt3) | (show (Addr.add _ _).block ≠ _; rw [add_block]; exact hnt3) | exact hnt3) (.int .i64 t111)).trans hxt13; (try have hy114_0 := fun (n_ : Nat) => (show (((((wt4.drewN n_).setCell ⟨gbt2, 0, none⟩ (.int .i64 t109)).setCell ⟨gbt2, 1, none⟩ (.int .i64 t110)).setCell ⟨gbt2, 2, none⟩ (.int .i64 t111))).cell? _ = some _ from hxt9)); (try have hy114_1 := fun (n_ : Nat) => (show (((((wt4.drewN n_).setCell ⟨gbt2, 0, none⟩ (.int .i64 t109)).setCell ⟨gbt2, 1, none⟩ (.int .i64 t110)).setCell ⟨gbt2, 2, none⟩ (.int .i64 t111))).cell? _ = some _ from hxt10)); (try have hy114_2 := fun (n_ : Nat) => (show (((((wt4.drewN n_).setCell ⟨gbt2, 0, none⟩ (.int .i64 t109)).setCell ⟨gbt2, 1, none⟩ (.int .i64 t110)).setCell ⟨gbt2, 2, none⟩ (.int .i64 t111))).cell? _ = some _ from hxt11)); (try have hy114_3 := fun (n_ : Nat) => (show (((((wt4.drewN n_).setCell ⟨gbt2, 0, none⟩ (.int .i64 t109)).setCell ⟨gbt2, 1, none⟩ (.int .i64 t110)).setCell ⟨gbt2, 2, none⟩ (.int .i64 t111))).cell? _ = some _ from hxt12)); (try have hy114_4 := fun (n_ : Nat) => (show (((((wt4.drewN n_).setCell ⟨gbt2, 0, none⟩ (.int .i64 t109)).setCell ⟨gbt2, 1, none⟩ (.int .i64 t110)).setCell ⟨gbt2, 2, none⟩ (.int .i64 t111))).cell? _ = some _ from hxt13)); clear hnt1; clear hnt2; clear hnt3; replace pt3 := eq_true pt3; replace qt3 := eq_true qt3)))
       go_roundg k3
       case measure => have := HJy1.out; have := HKw1.out; have := HKu1.out; omega
       case rel => exact ⟨(wrap64 (x4_3 + 1)), rS, H', ⟨by have := HJy1.out; have := HKw1.out; have := HKu1.out; omega⟩, ⟨(bF BKz1.out)⟩, ⟨(hX HB.out)⟩⟩
def spec_ValOk.f (a0 : Int) : Option (Bool) := (spec_l1In.f a0 1 6).bind fun t101 => (some t101)
theorem spec_ValOk.calls (a0 : Int) (r : Bool) (w : World) (h : spec_ValOk.f a0 = some r) :
  Calls Tryz.prog 159 #[.int .i64 a0] w fun e w' => e = .returned (.bool r) ∧ Drawn0 w w' := by
 have H := h
 unfold spec_ValOk.f at H
 clear h
 replace H := bE H; obtain ⟨t101, A2, H⟩ := H
 obtain rfl := sI H
 go_enter Tryz.func159, Tryz.ntmps159
 go_wp2_with (refine gD 43 4 Tryz.func43 (spec_l1In.calls _ _ _ _ _ A2.out) ?_; intro nd)
 go_ret
 exact ⟨by first | rfl | (simp; done) | (simp [*]; done), dX⟩
def spec_KeyOf.l0 : Nat → Int → Int → List Int → Int → Option (Int)
 | 0, _, _, _, _ => none
 | k + 1, x1, x5, x102000, x102001 => if x5 < (x102000.length : Int) then (if 0 ≤ x5 then (if (rd x102000 x5) = x1 then (some x5) else (spec_KeyOf.l0 k x1 (wrap64 (x5 + 1)) x102000 x102001)) else (none)) else (some (-1))
def spec_KeyOf.f (k : Nat) (l0_0 : List Int) (a0_1 : Int) (a1 : Int) : Option (Int) := spec_KeyOf.l0 k a1 0 l0_0 a0_1
theorem spec_KeyOf.calls (k : Nat) (A0_0 : Option Addr) (c0_0 : Nat) (l0_0 : List Int) (a0_1 : Int) (a1 : Int) (r : Int) (w : World) (hr0_0 : Kd.C (Kd.int .i64) w A0_0 l0_0.length l0_0) (hc0_0 : l0_0.length ≤ c0_0) (h : spec_KeyOf.f k l0_0 a0_1 a1 = some r) :
  Calls Tryz.prog 160 #[.agg #[.slice A0_0 l0_0.length c0_0, .int .i64 a0_1], .int .i64 a1] w fun e w' => e = .returned (.int .i64 r) ∧ Below w.heap.size w w' := by
 have hu41 := Tryz.underlying41
 have HR0_0 := aM hr0_0
 have HC0_0 := aM hc0_0
 clear hr0_0 hc0_0
 have HB := aM (Below.refl w.heap.size w)
 have H := h
 unfold spec_KeyOf.f at H
 clear h
 have H' := aM H
 clear H
 go_enter Tryz.func160, Tryz.ntmps160
 go_wp2_with (refine boxE 2 #[.slice A0_0 l0_0.length c0_0, .int .i64 a0_1] 41 ?_; intro gbz1 hg wz1 hbox hb; have BKz1 := aM (hbox); have GWz1 := aG hg HB; have GEz1 := aG hg HB; replace HB := aS HB hb; clear hb hbox hg)
 go_loopg [5] k (fun kq v5 w' => ∃ (x5_1 : Int), v5 = .int .i64 x5_1 ∧ Aside0 (spec_KeyOf.l0 kq a1 x5_1 l0_0 a0_1 = some r) ∧ Aside0 (kq ≤ k) ∧ Aside0 (w'.heap[gbz1]? = some (.cells #[(.slice A0_0 l0_0.length c0_0), .int .i64 a0_1] 41 (0, 0))) ∧ Aside0 (Below w.heap.size w w'))
 case atStart => exact ⟨(0), rS, H', ⟨Nat.le_refl _⟩, ⟨(bX BKz1.out)⟩, ⟨(hX HB.out)⟩⟩
 case round =>
  clear H'
  obtain ⟨x5_1, rfl, HA, HKy1, BKz1, HB⟩ := hrel
  cases gk with
  | zero => exact absurd HA.out (by simp [spec_KeyOf.l0])
  | succ k1 =>
   have H := HA.out
   clear HA
   simp only [spec_KeyOf.l0] at H
   revert H; refine iN (fun c4b0 H => ?_) (fun c4b0 H => ?_)
   ·obtain rfl := sI H
    have hczx1 := cZ2 BKz1.out
    exact fS
   replace H := ifQ H; obtain ⟨c5b0, H⟩ := H
   revert H; refine eP (fun c6b0 c6b1 H => ?_) (fun c6b0 c6b1 H => ?_)
   ·obtain rfl := sI H
    have hczx1 := cZ2 BKz1.out
    obtain ⟨adx1, ex1, px1, qx1, hxx1⟩ := at_ic HR0_0 HB x5_1
    cases ex1
    exact fS
   have H' := aM H
   clear H
   have hczx1 := cZ2 BKz1.out
   obtain ⟨adx1, ex1, px1, qx1, hxx1⟩ := at_ic HR0_0 HB x5_1
   cases ex1
   go_wp2
   go_roundg k1
   case measure => have := HKy1.out; omega
   case rel => exact ⟨(wrap64 (x5_1 + 1)), rS, H', ⟨by have := HKy1.out; omega⟩, ⟨(bX BKz1.out)⟩, ⟨(hX HB.out)⟩⟩
def spec_RowsOk.l0 : Nat → Int → List Int → Int → Option (Bool)
 | 0, _, _, _ => none
 | k + 1, x3, x102000, x102001 => if x3 < (x102000.length : Int) then (if 0 ≤ x3 then (if (rd x102000 x3) = 0 then (spec_RowsOk.l0 k (wrap64 (x3 + 1)) x102000 x102001) else ((spec_ValOk.f (rd x102000 x3)).bind fun t105 => (if t105 = true then ((spec_KeyOf.f k x102000 x102001 (rd x102000 x3)).bind fun t107 => (if t107 = x3 then (spec_RowsOk.l0 k (wrap64 (x3 + 1)) x102000 x102001) else (some false))) else (some false)))) else (none)) else (if (x102000.length : Int) = 4 then ((spec_l1In.f x102001 0 5).bind fun t102 => (some t102)) else (some false))
def spec_RowsOk.f (k : Nat) (l0_0 : List Int) (a0_1 : Int) : Option (Bool) := spec_RowsOk.l0 k 0 l0_0 a0_1
def spec_RowsOk.T4 : Bool × List (List Nat × List Nat) := (true, [([], []), ([0], [0]), ([], []), ([1, 2], [1, 2]), ([3], [3]), ([4], [4]), ([5], [5]), ([6], [6]), ([7, 6], [6, 7]), ([6], [6]), ([8, 9, 6], [6, 8, 9]), ([10, 6], [6, 10]), ([11, 6, 6], [6, 11]), ([12, 6], [6, 12]), ([13, 12, 6], [6, 13]), ([14], [14]), ([14], [14]), ([16, 14], [14, 16]), ([14], [14]), ([17, 18, 14], [14, 17, 18]), ([19, 14], [14, 19]), ([15, 20, 14, 14], [14, 15, 20]), ([14], [14]), ([21, 22, 14], [14, 21, 22]), ([14, 23, 6], [6, 14, 23]), ([6, 24], [6, 24])])
def spec_RowsOk.B4 : List Nat := [0, 1, 0, 7, 15, 31, 63, 127, 255, 127, 1023, 2047, 4095, 8191, 16383, 32767, 32767, 98303, 32767, 491519, 1015807, 2097151, 32767, 8388607, 16777215, 33554431]
theorem spec_RowsOk.tab4 : rtab .any (opsOf Tryz.f93 4) = spec_RowsOk.T4 := by kernel_rfl
theorem spec_RowsOk.bits4 : waitsOk spec_RowsOk.T4.2 spec_RowsOk.B4 = true := by kernel_rfl
theorem spec_RowsOk.calls (k : Nat) (A0_0 : Option Addr) (c0_0 : Nat) (l0_0 : List Int) (a0_1 : Int) (r : Bool) (w : World) (hr0_0 : Kd.C (Kd.int .i64) w A0_0 l0_0.length l0_0) (hc0_0 : l0_0.length ≤ c0_0) (h : spec_RowsOk.f k l0_0 a0_1 = some r) :
  Calls Tryz.prog 93 #[.agg #[.slice A0_0 l0_0.length c0_0, .int .i64 a0_1]] w fun e w' => e = .returned (.bool r) ∧ Below w.heap.size w w' := by
 have hu41 := Tryz.underlying41
 have HR0_0 := aM hr0_0
 have HC0_0 := aM hc0_0
 clear hr0_0 hc0_0
 have HB := aM (Below.refl w.heap.size w)
 have H := h
 unfold spec_RowsOk.f at H
 clear h
 have H' := aM H
 clear H
 go_enter Tryz.func93, Tryz.ntmps93
 go_wp2_with (refine boxE 1 #[.slice A0_0 l0_0.length c0_0, .int .i64 a0_1] 41 ?_; intro gbz1 hg wz1 hbox hb; have BKz1 := aM (hbox); have GWz1 := aG hg HB; have GEz1 := aG hg HB; replace HB := aS HB hb; clear hb hbox hg)
 go_loopg [3] k (fun kq v3 w' => ∃ (x3_1 : Int), v3 = .int .i64 x3_1 ∧ Aside0 (spec_RowsOk.l0 kq x3_1 l0_0 a0_1 = some r) ∧ Aside0 (kq ≤ k) ∧ Aside0 (w'.heap[gbz1]? = some (.cells #[(.slice A0_0 l0_0.length c0_0), .int .i64 a0_1] 41 (0, 0))) ∧ Aside0 (Below w.heap.size w w'))
 case atStart => exact ⟨(0), rS, H', ⟨Nat.le_refl _⟩, ⟨(bX BKz1.out)⟩, ⟨(hX HB.out)⟩⟩
 case round =>
  clear H'
  obtain ⟨x3_1, rfl, HA, HKy1, BKz1, HB⟩ := hrel
  cases gk with
  | zero => exact absurd HA.out (by simp [spec_RowsOk.l0])
  | succ k1 =>
   have H := HA.out
   clear HA
   simp only [spec_RowsOk.l0] at H
   revert H; refine iN (fun c3b0 H => ?_) (fun c3b0 H => ?_)
   ·revert H; refine eN (fun c20b0 c20b1 H => ?_) (fun c20b0 c20b1 H => ?_)
    ·obtain rfl := sI H
     have hczx1 := cZ2 BKz1.out
     exact fS
    replace H := bE H; obtain ⟨t102, A21, H⟩ := H
    obtain rfl := sI H
    have hczx1 := cZ2 BKz1.out
    go_wp2_with (go_at_call 43; (with_reducible refine (spec_l1In.calls _ _ _ _ _ A21.out).mono ?_); rintro e w' ⟨rfl, ⟨nd, rfl⟩⟩)
    go_ret
    exact ⟨rE, (hX HB.out)⟩
   replace H := ifQ H; obtain ⟨c4b0, H⟩ := H
   revert H; refine eP (fun c5b0 c5b1 H => ?_) (fun c5b0 c5b1 H => ?_)
   ·have H' := aM H
    clear H
    have hczx1 := cZ2 BKz1.out
    try go_wp2
    obtain ⟨adx1, ex1, px1, qx1, hxx1⟩ := at_ic HR0_0 HB x3_1
    cases ex1
    have hcb0_ := cV2 BKz1.out
    refine sR0 26 spec_RowsOk.tab4 spec_RowsOk.bits4 (fun HT_ HW_ hHeld => ?_)
    refine zA 0 ?_
    refine zA 2 ?_
    refine tA 1 ?_
    refine zA 3 ?_
    refine tA 4 ?_
    refine zA 5 ?_
    refine zA 6 ?_
    refine uA 7 ?_
    refine uA 8 ?_
    refine uA 9 ?_
    refine uA 10 ?_
    refine uA 11 ?_
    refine uA 12 ?_
    refine uA 13 ?_
    refine uA 14 ?_
    refine uA 15 ?_
    refine uA 16 ?_
    refine uA 17 ?_
    refine uA 18 ?_
    refine uA 19 ?_
    refine uA 20 ?_
    refine uA 21 ?_
    refine uA 22 ?_
    refine uA 23 ?_
    refine uA 24 ?_
    refine zA 25 ?_
    refine dA ?_
    try go_wp2
    go_roundg k1
    case measure => have := HKy1.out; omega
    case rel => exact ⟨(wrap64 (x3_1 + 1)), rS, H', ⟨by have := HKy1.out; omega⟩, ⟨(bX BKz1.out)⟩, ⟨(hX HB.out)⟩⟩
   replace H := bE H; obtain ⟨t105, A8, H⟩ := H
   cases t105
   case false =>
    rw [if_neg nft] at H
    obtain rfl := sI H
    have hczx1 := cZ2 BKz1.out
    try go_wp2
    obtain ⟨adx1, ex1, px1, qx1, hxx1⟩ := at_ic HR0_0 HB x3_1
    cases ex1
    obtain ⟨adx2, ex2, px2, qx2, hxx2⟩ := at_ic HR0_0 HB x3_1
    obtain rfl : adx1 = adx2 := (by injection ex2)
    have hcb0_ := cV2 BKz1.out
    refine sR0 26 spec_RowsOk.tab4 spec_RowsOk.bits4 (fun HT_ HW_ hHeld => ?_)
    refine zA 0 ?_
    refine zA 2 ?_
    refine tA 1 ?_
    refine zA 3 ?_
    refine tA 4 ?_
    refine zA 5 ?_
    refine zA 6 ?_
    refine zA 7 ?_
    refine zA 9 ?_
    refine tA 8 ?_
    refine zA 10 ?_
    refine tA 11 ?_
    refine eD 12 Tryz.func159 (spec_ValOk.calls _ _ _ A8.out) (fun nd hHeld => ?_)
    refine zA 13 ?_
    refine zA 14 ?_
    refine uA 15 ?_
    refine uA 16 ?_
    refine uA 17 ?_
    refine uA 18 ?_
    refine uA 19 ?_
    refine uA 20 ?_
    refine uA 21 ?_
    refine uA 22 ?_
    refine uA 23 ?_
    refine zA 24 ?_
    refine zA 25 ?_
    refine dA ?_
    try go_wp2
    go_ret
    exact ⟨rE, (hX HB.out)⟩
   rw [if_pos rfl] at H
   replace H := bE H; obtain ⟨t107, A10, H⟩ := H
   revert H; refine eN (fun c11b0 c11b1 H => ?_) (fun c11b0 c11b1 H => ?_)
   ·obtain rfl := sI H
    have hczx1 := cZ2 BKz1.out
    try go_wp2
    obtain ⟨adx1, ex1, px1, qx1, hxx1⟩ := at_ic HR0_0 HB x3_1
    cases ex1
    obtain ⟨adx2, ex2, px2, qx2, hxx2⟩ := at_ic HR0_0 HB x3_1
    obtain rfl : adx1 = adx2 := (by injection ex2)
    obtain ⟨adx3, ex3, px3, qx3, hxx3⟩ := at_ic HR0_0 HB x3_1
    obtain rfl : adx1 = adx3 := (by injection ex3)
    have hcb0_ := cV2 BKz1.out
    refine sR0 26 spec_RowsOk.tab4 spec_RowsOk.bits4 (fun HT_ HW_ hHeld => ?_)
    refine zA 0 ?_
    refine zA 2 ?_
    refine tA 1 ?_
    refine zA 3 ?_
    refine tA 4 ?_
    refine zA 5 ?_
    refine zA 6 ?_
    refine zA 7 ?_
    refine zA 9 ?_
    refine tA 8 ?_
    refine zA 10 ?_
    refine tA 11 ?_
    refine eD 12 Tryz.func159 (spec_ValOk.calls _ _ _ A8.out) (fun nd hHeld => ?_)
    refine zA 13 ?_
    refine zA 14 ?_
    refine zA 16 ?_
    refine zA 18 ?_
    refine zA 22 ?_
    refine tA 15 ?_
    refine tA 17 ?_
    refine zA 19 ?_
    refine tA 20 ?_
    refine eB 21 Tryz.func160 (spec_KeyOf.calls _ _ _ _ _ _ _ _ (cC HR0_0.out HB.out) HC0_0.out A10.out) (fun wx2 hb hHeld => ?_)
    replace BKz1 := aB BKz1 hb
    replace HB := aS HB hb
    (try clear hb)
    refine zA 23 ?_
    refine zA 24 ?_
    refine zA 25 ?_
    refine dA ?_
    try go_wp2
    go_ret
    exact ⟨rE, (hX HB.out)⟩
   have H' := aM H
   clear H
   have hczx1 := cZ2 BKz1.out
   try go_wp2
   obtain ⟨adx1, ex1, px1, qx1, hxx1⟩ := at_ic HR0_0 HB x3_1
   cases ex1
   obtain ⟨adx2, ex2, px2, qx2, hxx2⟩ := at_ic HR0_0 HB x3_1
   obtain rfl : adx1 = adx2 := (by injection ex2)
   obtain ⟨adx3, ex3, px3, qx3, hxx3⟩ := at_ic HR0_0 HB x3_1
   obtain rfl : adx1 = adx3 := (by injection ex3)
   have hcb0_ := cV2 BKz1.out
   refine sR0 26 spec_RowsOk.tab4 spec_RowsOk.bits4 (fun HT_ HW_ hHeld => ?_)
   refine zA 0 ?_
   refine zA 2 ?_
   refine tA 1 ?_
   refine zA 3 ?_
   refine tA 4 ?_
   refine zA 5 ?_
   refine zA 6 ?_
   refine zA 7 ?_
   refine zA 9 ?_
   refine tA 8 ?_
   refine zA 10 ?_
   refine tA 11 ?_
   refine eD 12 Tryz.func159 (spec_ValOk.calls _ _ _ A8.out) (fun nd hHeld => ?_)
   refine zA 13 ?_
   refine zA 14 ?_
   refine zA 16 ?_
   refine zA 18 ?_
   refine zA 22 ?_
   refine tA 15 ?_
   refine tA 17 ?_
   refine zA 19 ?_
   refine tA 20 ?_
   refine eB 21 Tryz.func160 (spec_KeyOf.calls _ _ _ _ _ _ _ _ (cC HR0_0.out HB.out) HC0_0.out A10.out) (fun wx2 hb hHeld => ?_)
   replace BKz1 := aB BKz1 hb
   replace HB := aS HB hb
   (try clear hb)
   refine zA 23 ?_
   refine zA 24 ?_
   refine zA 25 ?_
   refine dA ?_
   try go_wp2
   go_roundg k1
   case measure => have := HKy1.out; omega
   case rel => exact ⟨(wrap64 (x3_1 + 1)), rS, H', ⟨by have := HKy1.out; omega⟩, ⟨(bX BKz1.out)⟩, ⟨(hX HB.out)⟩⟩
end Go.Proofs.YtmljebgideecjaaGreat.P2
