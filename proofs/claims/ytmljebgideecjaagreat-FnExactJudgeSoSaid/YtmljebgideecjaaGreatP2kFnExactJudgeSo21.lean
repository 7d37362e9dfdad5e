/- A part of the proof of the law FnExactJudgeSo: texts of this seat, merged (words, printed functions of the program, plain lemmas). Conditions: none of its own. -/
import Derived.Test.YtmljebgideecjaaGreatP2kFnExactJudgeSo1
import Derived.Test.YtmljebgideecjaaGreatP2kFnExactJudgeSo4
import Derived.Test.YtmljebgideecjaaGreatP2kFnExactJudgeSo5
import Derived.Test.YtmljebgideecjaaGreatP2kFnExactJudgeSo6
import Derived.Test.YtmljebgideecjaaGreatP2kFnExactJudgeSo19
import Derived.Test.YtmljebgideecjaaGreatP2kFnExactJudgeSo20
set_option linter.unusedSimpArgs false
set_option linter.unusedVariables false
set_option maxHeartbeats 8000000
set_option maxRecDepth 100000
namespace Go.Proofs.YtmljebgideecjaaGreat.P2
open Go.Proofs.YtmljebgideecjaaGreatZ Go.RowKit Go.Proofs.YtmljebgideecjaaGreatW.PrintWords Go.Proofs.YtmljebgideecjaaGreatW.PrintLast Go.Proofs.YtmljebgideecjaaGreatW.PrintMore
attribute [local go_sem] max2_int min2_int max_two min_two max_three min_three max_four min_four   -- for this text's walks alone
mutual
def impl_MemOk.j0 : Nat → Bool → List (S140) → List (S162) → Option (Bool)
 | 0, _, _, _ => none
 | k + 1, x23, x102000, x102001 => if x23 = true then (some false) else (impl_MemOk.l0 k x102000 (x102000.length : Int) 0 x102000 x102001)
def impl_MemOk.l0 : Nat → List (S140) → Int → Int → List (S140) → List (S162) → Option (Bool)
 | 0, _, _, _, _, _ => none
 | k + 1, x25, x26, x27, x102000, x102001 => if x27 < x26 then (if 0 ≤ x27 then (if x27 < (x25.length : Int) then ((impl_WordOk.f ((rd_T140 x25 x27).f0) ((rd_T140 x25 x27).f1) ((rd_T140 x25 x27).f2) (x102001.length : Int)).bind fun t106 => (if t106 = true then (if ((rd_T140 x25 x27).f1) = 0 then (impl_MemOk.l0 k x25 x26 (wrap64 (x27 + 1)) x102000 x102001) else (if 0 ≤ (wrap64 (((rd_T140 x25 x27).f1) - 1)) then (if (wrap64 (((rd_T140 x25 x27).f1) - 1)) < (x102001.length : Int) then ((impl_Entries.f k ((rd_T162 x102001 (wrap64 (((rd_T140 x25 x27).f1) - 1))).f0) ((rd_T162 x102001 (wrap64 (((rd_T140 x25 x27).f1) - 1))).f1) ((rd_T162 x102001 (wrap64 (((rd_T140 x25 x27).f1) - 1))).f2) ((rd_T162 x102001 (wrap64 (((rd_T140 x25 x27).f1) - 1))).f3.f0) ((rd_T162 x102001 (wrap64 (((rd_T140 x25 x27).f1) - 1))).f3.f1) x27).bind fun bt109 => (if bt109.2.2.2 = true then (if ((rd_T162 x102001 (wrap64 (((rd_T140 x25 x27).f1) - 1))).f0) = ((rd_T140 x25 x27).f2) then (impl_MemOk.l0 k x25 x26 (wrap64 (x27 + 1)) x102000 x102001) else (some false)) else (some false))) else (none)) else (none))) else (some false))) else (none)) else (none)) else (some true)
end
def impl_MemOk.f (k : Nat) (l0_0 : List (S140)) (l0_1 : List (S162)) : Option (Bool) := if (l0_0.length : Int) = 20 then ((impl_from.f (l0_1.length : Int) 1 4).bind fun t102 => (if t102 = true then ((impl_Desc_169_170.f k l0_1).bind fun t103 => (impl_MemOk.j0 k t103 l0_0 l0_1)) else (impl_MemOk.j0 k true l0_0 l0_1))) else (impl_MemOk.j0 k true l0_0 l0_1)
theorem impl_MemOk.calls (k : Nat) (A0_0 : Option Addr) (c0_0 : Nat) (l0_0 : List (S140)) (A0_1 : Option Addr) (c0_1 : Nat) (l0_1 : List (S162)) (r : Bool) (w : World) (hr0_0 : Kd.C k140 w A0_0 l0_0.length l0_0) (hc0_0 : l0_0.length ≤ c0_0) (hr0_1 : Kd.C k162 w A0_1 l0_1.length l0_1) (hc0_1 : l0_1.length ≤ c0_1) (h : impl_MemOk.f k l0_0 l0_1 = some r) :
  Calls Tryz.prog 101 #[.agg #[.slice A0_0 l0_0.length c0_0, .slice A0_1 l0_1.length c0_1]] w fun e w' => e = .returned (.bool r) ∧ Below w.heap.size w w' := by
 have hu38 := Tryz.underlying38
 have hu140 := Tryz.underlying140
 have hu162 := Tryz.underlying162
 have hu165 := Tryz.underlying165
 have HR0_0 := aM hr0_0
 have HC0_0 := aM hc0_0
 clear hr0_0 hc0_0
 have HR0_1 := aM hr0_1
 have HC0_1 := aM hc0_1
 clear hr0_1 hc0_1
 have HB := aM (Below.refl w.heap.size w)
 have H := h
 unfold impl_MemOk.f at H
 clear h
 have HC2 := aM H
 clear H
 go_enter Tryz.func101, Tryz.ntmps101
 go_upto_region 1 with ((with_reducible refine gate_dst (N := 1) rfl ?_); (try (refine gate_guard (by rfl) ?_; dsimp only)); refine boxF 1 #[.slice A0_0 l0_0.length c0_0, .slice A0_1 l0_1.length c0_1] 38 ?_; intro gbz1 hg wz1 hbox hb; have BKz1 := aM (hbox); have GWz1 := aG hg HB; have GEz1 := aG hg HB; replace HB := aS HB hb; clear hb hbox hg)
 (try simp only [Act.put, List.setIfInBounds_toArray, List.set_cons_zero, List.set_cons_succ])
 go_cut [23] (fun vz1 wc => ∃ (kq : Nat) (x23_1 : Bool), vz1 = .bool x23_1 ∧ Aside0 (impl_MemOk.j0 kq x23_1 l0_0 l0_1 = some r) ∧ Aside0 (kq ≤ k) ∧ Aside0 (wc.heap[gbz1]? = some (.cells #[(.slice A0_0 l0_0.length c0_0), (.slice A0_1 l0_1.length c0_1)] 38 (0, 0))) ∧ Aside0 (Below w.heap.size w wc))
 case first =>
  have H := HC2.out
  clear HC2
  revert H; refine eN (fun c4b0 c4b1 H => ?_) (fun c4b0 c4b1 H => ?_)
  ·(first | rw [c4b0] | (simp only [i64_w, i32_w]; rw [c4b0]) | skip)
   have H' := aM H
   clear H
   have hczy1 := cZ2 BKz1.out
   go_wp2
   go_meet
   case rel => exact ⟨_, (true), rS, H', ⟨by first | omega | exact Nat.le_refl _⟩, ⟨(bX BKz1.out)⟩, ⟨(hX HB.out)⟩⟩
  (first | rw [c4b0] | (simp only [i64_w, i32_w]; rw [c4b0]) | skip)
  replace H := bE H; obtain ⟨t102, A5, H⟩ := H
  cases t102
  case false =>
   rw [if_neg nft] at H
   have H' := aM H
   clear H
   have hczy1 := cZ2 BKz1.out
   go_wp2_with (go_at_call 102; (with_reducible refine (impl_from.calls _ _ _ _ _ A5.out).mono ?_); rintro e w' ⟨rfl, ⟨nd, rfl⟩⟩)
   go_meet
   case rel => exact ⟨_, (true), rS, H', ⟨by first | omega | exact Nat.le_refl _⟩, ⟨(bX BKz1.out)⟩, ⟨(hX HB.out)⟩⟩
  rw [if_pos rfl] at H
  replace H := bE H; obtain ⟨t103, A7, H⟩ := H
  have H' := aM H
  clear H
  have hczy1 := cZ2 BKz1.out
  go_wp2_with (first | (go_at_call 102; (with_reducible refine (impl_from.calls _ _ _ _ _ A5.out).mono ?_); rintro e w' ⟨rfl, ⟨nd, rfl⟩⟩) | (go_at_call 169; (with_reducible refine (impl_Desc_169_170.calls _ _ _ _ _ _ (cC HR0_1.out HB.out) HC0_1.out A7.out).mono ?_); rintro e wy1 ⟨rfl, hb⟩; replace BKz1 := aB BKz1 hb; replace HB := aS HB hb; clear hb))
  go_meet
  case rel => exact ⟨_, (t103), rS, H', ⟨by first | omega | exact Nat.le_refl _⟩, ⟨(bX BKz1.out)⟩, ⟨(hX HB.out)⟩⟩
 case rest =>
  clear HC2
  obtain ⟨kq, x23_1, rfl, HA, HJy1, BKz1, HB⟩ := hcut
  cases kq with
  | zero => exact absurd HA.out (by simp [impl_MemOk.j0])
  | succ kj1 =>
   have H := HA.out
   clear HA
   simp only [impl_MemOk.j0] at H
   cases x23_1
   case true =>
    rw [if_pos rfl] at H
    exact fR
   rw [if_neg nft] at H
   have H' := aM H
   clear H
   have hczx1 := cZ2 BKz1.out
   go_wp2
   go_loopg [27] kj1 (fun kq v27 w' => ∃ (x27_2 : Int), v27 = .int .i64 x27_2 ∧ Aside0 (impl_MemOk.l0 kq l0_0 (l0_0.length : Int) x27_2 l0_0 l0_1 = some r) ∧ Aside0 (kq ≤ kj1) ∧ Aside0 (w'.heap[gbz1]? = some (.cells #[(.slice A0_0 l0_0.length c0_0), (.slice A0_1 l0_1.length c0_1)] 38 (0, 0))) ∧ Aside0 (Below w.heap.size w w'))
   case atStart => exact ⟨(0), rS, H', ⟨Nat.le_refl _⟩, ⟨(bX BKz1.out)⟩, ⟨(hX HB.out)⟩⟩
   case round =>
    clear H'
    try clear hczx1
    obtain ⟨x27_2, rfl, HA, HKw1, BKz1, HB⟩ := hrel
    cases gk with
    | zero => exact absurd HA.out (by simp [impl_MemOk.l0])
    | succ k2 =>
     have H := HA.out
     clear HA
     simp only [impl_MemOk.l0] at H
     revert H; refine iN (fun c14b0 H => ?_) (fun c14b0 H => ?_)
     ·obtain rfl := sI H
      exact fS
     replace H := ifQ H; obtain ⟨c15b0, H⟩ := H
     replace H := ifQ H; obtain ⟨c16b0, H⟩ := H
     replace H := bE H; obtain ⟨t106, A17, H⟩ := H
     obtain ⟨adv1, ev1, pv1, qv1, hxv1⟩ := at_T140c HR0_0 HB x27_2
     cases ev1
     go_wp2_with ((with_reducible refine gate_dst (N := 4) rfl ?_); (try (refine gate_guard (by rfl) ?_; dsimp only)); refine boxF 4 #[.int .i64 0, .int .i64 0, .int .i64 0] 140 ?_; intro gbv1 hg wv1 hbox hb; have BKv1 := aM (hbox); have GWv1 := aG hg HB; have GEv1 := aG hg HB; have NBv1 := aL hg BKz1; have NBv2 := aR hg BKz1; replace BKz1 := aB BKz1 hb; replace HB := aS HB hb; clear hb hbox hg; have hnbv1 := NBv2.out; have hncv1 := NBv1.out; have hczv1 := cZ3 BKv1.out; have hczv4 := cZ2 BKz1.out; refine Stop.out ?_)
     refine ⟨?_⟩
     cases t106
     case false =>
      rw [if_neg nft] at H
      obtain rfl := sI H
      go_wp2_with (refine gB 172 36 Tryz.func172 (impl_WordOk.calls _ _ _ _ _ _ A17.out) ?_; intro wv2 hb; replace BKz1 := aF BKz1 hb; replace BKv1 := aM (blk_below (g := gbv1) (o := .cells #[.int .i64 ((rd_T140 l0_0 x27_2).f0), .int .i64 ((rd_T140 l0_0 x27_2).f1), .int .i64 ((rd_T140 l0_0 x27_2).f2)] 140 (0, 0)) (bP BKv1.out) hb); replace HB := aS HB hb; clear hb)
      go_ret
      exact ⟨rE, (hX HB.out)⟩
     rw [if_pos rfl] at H
     revert H; refine eP (fun c19b0 c19b1 H => ?_) (fun c19b0 c19b1 H => ?_)
     ·have H' := aM H
      clear H
      go_wp2_with (refine gB 172 36 Tryz.func172 (impl_WordOk.calls _ _ _ _ _ _ A17.out) ?_; intro wv2 hb; replace BKz1 := aF BKz1 hb; replace BKv1 := aM (blk_below (g := gbv1) (o := .cells #[.int .i64 ((rd_T140 l0_0 x27_2).f0), .int .i64 ((rd_T140 l0_0 x27_2).f1), .int .i64 ((rd_T140 l0_0 x27_2).f2)] 140 (0, 0)) (bP BKv1.out) hb); replace HB := aS HB hb; clear hb; have hczv6 := cZ3 BKv1.out)
      go_roundg k2
      case measure => have := HJy1.out; have := HKw1.out; omega
      case rel => exact ⟨(wrap64 (x27_2 + 1)), rS, H', ⟨by have := HJy1.out; have := HKw1.out; omega⟩, ⟨(bX BKz1.out)⟩, ⟨(hX HB.out)⟩⟩
     obtain ⟨ji26, hji26⟩ : ∃ j_ : Int, (wrap64 (((rd_T140 l0_0 x27_2).f1) - 1)) = j_ := ⟨_, rfl⟩
     replace H : (if 0 ≤ (ji26) then (if (ji26) < (l0_1.length : Int) then ((impl_Entries.f k2 ((rd_T162 l0_1 (ji26)).f0) ((rd_T162 l0_1 (ji26)).f1) ((rd_T162 l0_1 (ji26)).f2) ((rd_T162 l0_1 (ji26)).f3.f0) ((rd_T162 l0_1 (ji26)).f3.f1) x27_2).bind fun bt109 => (if bt109.2.2.2 = true then (if ((rd_T162 l0_1 (ji26)).f0) = ((rd_T140 l0_0 x27_2).f2) then (impl_MemOk.l0 k2 l0_0 (l0_0.length : Int) (wrap64 (x27_2 + 1)) l0_0 l0_1) else (some false)) else (some false))) else (none)) else (none)) = some r := by first | (rw [hji26] at H; exact H) | (simp only [hji26] at H ⊢; exact H)
     (try rw [hji26] at A17)
     have hji26w : (IntKind.i64.wrap (((rd_T140 l0_0 x27_2).f1) - 1)) = ji26 := (i64_w _).trans hji26
     replace H := ifQ H; obtain ⟨c27b0, H⟩ := H
     replace H := ifQ H; obtain ⟨c28b0, H⟩ := H
     replace H := bE H; obtain ⟨⟨t109, t110, t111, t112⟩, A29, H⟩ := H
     try dsimp only at H
     go_wp2_with (first | (refine gB 172 36 Tryz.func172 (impl_WordOk.calls _ _ _ _ _ _ A17.out) ?_; intro wv2 hb; replace BKz1 := aF BKz1 hb; replace BKv1 := aM (blk_below (g := gbv1) (o := .cells #[.int .i64 ((rd_T140 l0_0 x27_2).f0), .int .i64 ((rd_T140 l0_0 x27_2).f1), .int .i64 ((rd_T140 l0_0 x27_2).f2)] 140 (0, 0)) (bP BKv1.out) hb); replace HB := aS HB hb; clear hb; have hczv6 := cZ3 BKv1.out; have hczv9 := cZ2 BKz1.out; have pv2 : 0 ≤ ((ji26) : Int) := odA; have qv2 : (ji26) < (l0_1.length : Int) := odA; obtain ⟨adv2, Av1, cv1, Av2, cv2, ev2, hxv4, hxv5, hxv6, hxv7, hxv8, hlv1, hiv1, hlv2, hiv2⟩ := at_T162 HR0_1.out (ji26) pv2 qv2; cases ev2; replace hxv4 := bc HB.out hxv4; replace hxv5 := bc HB.out hxv5; replace hxv6 := bc HB.out hxv6; replace hxv7 := bc HB.out hxv7; replace hxv8 := bc HB.out hxv8; have HRv1 := aM hiv1; have HCv1 := aM hlv1; clear hiv1 hlv1; have HRv2 := aM hiv2; have HCv2 := aM hlv2; clear hiv2 hlv2; replace pv2 := eq_true pv2; replace qv2 := eq_true qv2) | ((with_reducible refine gate_dst (N := 5) rfl ?_); (try (refine gate_guard (by rfl) ?_; dsimp only)); refine boxF 5 #[.int .i64 0, .int .i64 0, .slice none 0 0, .int .i64 0, .slice none 0 0] 162 ?_; intro gbv2 hg wv3 hbox hb; have BKv2 := aM (hbox); have GWv2 := aG hg HB; have GEv2 := aG hg HB; have NBv3 := aL hg BKz1; have NBv4 := aR hg BKz1; have NBv5 := aL hg BKv1; have NBv6 := aR hg BKv1; replace BKz1 := aB BKz1 hb; replace BKv1 := aB BKv1 hb; replace HB := aS HB hb; clear hb hbox hg; have hnbv2 := NBv4.out; have hncv2 := NBv3.out; have hnbv3 := NBv6.out; have hncv3 := NBv5.out; have hczv11 := cZ5 BKv2.out; refine Stop.out ?_))
     refine ⟨?_⟩
     cases t112
     case false =>
      rw [if_neg nft] at H
      obtain rfl := sI H
      go_wp2_with (first | ((with_reducible refine gate_callee (f := 173) rfl ?_); refine goesL_ (some 51) rfl rfl Tryz.func173 (by kernel_rfl) rfl #[.agg #[.int .i64 ((rd_T162 l0_1 (ji26)).f0), .int .i64 ((rd_T162 l0_1 (ji26)).f1), .slice Av1 ((rd_T162 l0_1 (ji26)).f2).length cv1, .int .i64 ((rd_T162 l0_1 (ji26)).f3.f0), .slice Av2 ((rd_T162 l0_1 (ji26)).f3.f1).length cv2], .int .i64 x27_2] rfl (by (try simp only [List.map_toArray, List.map_cons, List.map_nil]); first | done | (simp only [hji26]; rfl) | rfl | (simp only [List.length_drop, List.length_take]; rfl)) ?_; (with_reducible refine (impl_Entries.calls k2 ((rd_T162 l0_1 (ji26)).f0) ((rd_T162 l0_1 (ji26)).f1) _ _ ((rd_T162 l0_1 (ji26)).f2) ((rd_T162 l0_1 (ji26)).f3.f0) _ _ ((rd_T162 l0_1 (ji26)).f3.f1) x27_2 t109 t110 t111 false _ (by exact Kd.C_below HRv1.out (hX HB.out)) HCv1.out (by exact Kd.C_below HRv2.out (hX HB.out)) HCv2.out A29.out).mono ?_); rintro e wv4 ⟨rfl, hb⟩; refine ⟨_, rfl, ?_⟩; replace BKz1 := aF BKz1 hb; replace BKv1 := aF BKv1 hb; replace BKv2 := aM (blk_below (g := gbv2) (o := .cells #[.int .i64 ((rd_T162 l0_1 (ji26)).f0), .int .i64 ((rd_T162 l0_1 (ji26)).f1), .slice Av1 ((rd_T162 l0_1 (ji26)).f2).length cv1, .int .i64 ((rd_T162 l0_1 (ji26)).f3.f0), .slice Av2 ((rd_T162 l0_1 (ji26)).f3.f1).length cv2] 162 (0, 0)) (bP BKv2.out) hb); replace HB := aS HB hb; clear hb) | ((with_reducible refine gate_dst (N := 6) rfl ?_); (try (refine gate_guard (by rfl) ?_; dsimp only)); refine boxF 6 #[.int .i64 0, .int .i64 0, .int .i64 0] 165 ?_; intro gbv3 hg wv5 hbox hb; have BKv3 := aM (hbox); have GWv3 := aG hg HB; have GEv3 := aG hg HB; have NBv7 := aL hg BKz1; have NBv8 := aR hg BKz1; have NBv9 := aL hg BKv1; have NBv10 := aR hg BKv1; have NBv11 := aM ((by rw [hg]; exact Nat.ne_of_lt (blk_lt (g := gbv2) (o := .cells #[.int .i64 ((rd_T162 l0_1 (ji26)).f0), .int .i64 ((rd_T162 l0_1 (ji26)).f1), .slice Av1 ((rd_T162 l0_1 (ji26)).f2).length cv1, .int .i64 ((rd_T162 l0_1 (ji26)).f3.f0), .slice Av2 ((rd_T162 l0_1 (ji26)).f3.f1).length cv2] 162 (0, 0)) (bX BKv2.out)) : gbv2 ≠ gbv3)); have NBv12 := aM ((by rw [hg]; exact Nat.ne_of_gt (blk_lt (g := gbv2) (o := .cells #[.int .i64 ((rd_T162 l0_1 (ji26)).f0), .int .i64 ((rd_T162 l0_1 (ji26)).f1), .slice Av1 ((rd_T162 l0_1 (ji26)).f2).length cv1, .int .i64 ((rd_T162 l0_1 (ji26)).f3.f0), .slice Av2 ((rd_T162 l0_1 (ji26)).f3.f1).length cv2] 162 (0, 0)) (bX BKv2.out)) : gbv3 ≠ gbv2)); replace BKz1 := aB BKz1 hb; replace BKv1 := aB BKv1 hb; replace BKv2 := aM (blk_below (g := gbv2) (o := .cells #[.int .i64 ((rd_T162 l0_1 (ji26)).f0), .int .i64 ((rd_T162 l0_1 (ji26)).f1), .slice Av1 ((rd_T162 l0_1 (ji26)).f2).length cv1, .int .i64 ((rd_T162 l0_1 (ji26)).f3.f0), .slice Av2 ((rd_T162 l0_1 (ji26)).f3.f1).length cv2] 162 (0, 0)) (bX BKv2.out) hb); replace HB := aS HB hb; clear hb hbox hg; have hnbv4 := NBv8.out; have hncv4 := NBv7.out; have hnbv5 := NBv10.out; have hncv5 := NBv9.out; have hnbv6 := NBv12.out; have hncv6 := NBv11.out; have hczv16 := cZ3 BKv3.out))
      go_ret
      exact ⟨by first | rfl | (simp [errW_none, errW_some] <;> rfl) | (simp only [← hji26]; first | rfl | (simp [errW_none, errW_some] <;> rfl)) | (simp [*, errW_none, errW_some] <;> rfl), (hX HB.out)⟩
     rw [if_pos rfl] at H
     go_wp2_with (first | ((with_reducible refine gate_callee (f := 173) rfl ?_); refine goesL_ (some 51) rfl rfl Tryz.func173 (by kernel_rfl) rfl #[.agg #[.int .i64 ((rd_T162 l0_1 (ji26)).f0), .int .i64 ((rd_T162 l0_1 (ji26)).f1), .slice Av1 ((rd_T162 l0_1 (ji26)).f2).length cv1, .int .i64 ((rd_T162 l0_1 (ji26)).f3.f0), .slice Av2 ((rd_T162 l0_1 (ji26)).f3.f1).length cv2], .int .i64 x27_2] rfl (by (try simp only [List.map_toArray, List.map_cons, List.map_nil]); first | done | (simp only [hji26]; rfl) | rfl | (simp only [List.length_drop, List.length_take]; rfl)) ?_; (with_reducible refine (impl_Entries.calls k2 ((rd_T162 l0_1 (ji26)).f0) ((rd_T162 l0_1 (ji26)).f1) _ _ ((rd_T162 l0_1 (ji26)).f2) ((rd_T162 l0_1 (ji26)).f3.f0) _ _ ((rd_T162 l0_1 (ji26)).f3.f1) x27_2 t109 t110 t111 true _ (by exact Kd.C_below HRv1.out (hX HB.out)) HCv1.out (by exact Kd.C_below HRv2.out (hX HB.out)) HCv2.out A29.out).mono ?_); rintro e wv4 ⟨rfl, hb⟩; refine ⟨_, rfl, ?_⟩; replace BKz1 := aF BKz1 hb; replace BKv1 := aF BKv1 hb; replace BKv2 := aM (blk_below (g := gbv2) (o := .cells #[.int .i64 ((rd_T162 l0_1 (ji26)).f0), .int .i64 ((rd_T162 l0_1 (ji26)).f1), .slice Av1 ((rd_T162 l0_1 (ji26)).f2).length cv1, .int .i64 ((rd_T162 l0_1 (ji26)).f3.f0), .slice Av2 ((rd_T162 l0_1 (ji26)).f3.f1).length cv2] 162 (0, 0)) (bP BKv2.out) hb); replace HB := aS HB hb; clear hb) | ((with_reducible refine gate_dst (N := 6) rfl ?_); (try (refine gate_guard (by rfl) ?_; dsimp only)); refine boxF 6 #[.int .i64 0, .int .i64 0, .int .i64 0] 165 ?_; intro gbv3 hg wv5 hbox hb; have BKv3 := aM (hbox); have GWv3 := aG hg HB; have GEv3 := aG hg HB; have NBv7 := aL hg BKz1; have NBv8 := aR hg BKz1; have NBv9 := aL hg BKv1; have NBv10 := aR hg BKv1; have NBv11 := aM ((by rw [hg]; exact Nat.ne_of_lt (blk_lt (g := gbv2) (o := .cells #[.int .i64 ((rd_T162 l0_1 (ji26)).f0), .int .i64 ((rd_T162 l0_1 (ji26)).f1), .slice Av1 ((rd_T162 l0_1 (ji26)).f2).length cv1, .int .i64 ((rd_T162 l0_1 (ji26)).f3.f0), .slice Av2 ((rd_T162 l0_1 (ji26)).f3.f1).length cv2] 162 (0, 0)) (bX BKv2.out)) : gbv2 ≠ gbv3)); have NBv12 := aM ((by rw [hg]; exact Nat.ne_of_gt (blk_lt (g := gbv2) (o := .cells #[.int .i64 ((rd_T162 l0_1 (ji26)).f0), .int .i64 ((rd_T162 l0_1 (ji26)).f1), .slice Av1 ((rd_T162 l0_1 (ji26)).f2).length cv1, .int .i64 ((rd_T162 l0_1 (ji26)).f3.f0), .slice Av2 ((rd_T162 l0_1 (ji26)).f3.f1).length cv2] 162 (0, 0)) (bX BKv2.out)) : gbv3 ≠ gbv2)); replace BKz1 := aB BKz1 hb; replace BKv1 := aB BKv1 hb; replace BKv2 := aM (blk_below (g := gbv2) (o := .cells #[.int .i64 ((rd_T162 l0_1 (ji26)).f0), .int .i64 ((rd_T162 l0_1 (ji26)).f1), .slice Av1 ((rd_T162 l0_1 (ji26)).f2).length cv1, .int .i64 ((rd_T162 l0_1 (ji26)).f3.f0), .slice Av2 ((rd_T162 l0_1 (ji26)).f3.f1).length cv2] 162 (0, 0)) (bX BKv2.out) hb); replace HB := aS HB hb; clear hb hbox hg; have hnbv4 := NBv8.out; have hncv4 := NBv7.out; have hnbv5 := NBv10.out; have hncv5 := NBv9.out; have hnbv6 := NBv12.out; have hncv6 := NBv11.out; have hczv16 := cZ3 BKv3.out; have hczv19 := cZ5 BKv2.out; have hczv24 := cZ3 BKv1.out; refine Stop.out ?_))
     refine ⟨?_⟩
     revert H; refine eN (fun c31b0 c31b1 H => ?_) (fun c31b0 c31b1 H => ?_)
     ·obtain rfl := sI H
      go_wp2
      go_ret
      exact ⟨by first | rfl | (simp [errW_none, errW_some] <;> rfl) | (simp only [← hji26]; first | rfl | (simp [errW_none, errW_some] <;> rfl)) | (simp [*, errW_none, errW_some] <;> rfl), (hX HB.out)⟩
     have H' := aM H
     clear H
     go_wp2
     go_roundg k2
     case measure => have := HJy1.out; have := HKw1.out; omega
     case rel => exact ⟨(wrap64 (x27_2 + 1)), rS, H', ⟨by have := HJy1.out; have := HKw1.out; omega⟩, ⟨(bF BKz1.out)⟩, ⟨(hX HB.out)⟩⟩
def impl_ValOk.f (a0 : Int) : Option (Bool) := (impl_from.f a0 1 6).bind fun t101 => (some t101)
theorem impl_ValOk.calls (a0 : Int) (r : Bool) (w : World) (h : impl_ValOk.f a0 = some r) :
  Calls Tryz.prog 174 #[.int .i64 a0] w fun e w' => e = .returned (.bool r) ∧ Drawn0 w w' := by
 have H := h
 unfold impl_ValOk.f at H
 clear h
 replace H := bE H; obtain ⟨t101, A2, H⟩ := H
 obtain rfl := sI H
 go_enter Tryz.func174, Tryz.ntmps174
 go_wp2_with (refine gD 102 4 Tryz.func102 (impl_from.calls _ _ _ _ _ A2.out) ?_; intro nd)
 go_ret
 exact ⟨by first | rfl | (simp; done) | (simp [*]; done), dX⟩
def slices_Index_int_int.l0 : Nat → List Int → Int → Int → Int → Option (Int)
 | 0, _, _, _, _ => none
 | k + 1, x0, x1, x7, x8 => if x8 < x7 then (if 0 ≤ x8 then (if x8 < (x0.length : Int) then (if x1 = (rd x0 x8) then (some x8) else (slices_Index_int_int.l0 k x0 x1 x7 (wrap64 (x8 + 1)))) else (none)) else (none)) else (some (-1))
def slices_Index_int_int.f (k : Nat) (l0 : List Int) (a1 : Int) : Option (Int) := slices_Index_int_int.l0 k l0 a1 (l0.length : Int) 0
theorem slices_Index_int_int.calls (k : Nat) (A0 : Option Addr) (c0 : Nat) (l0 : List Int) (a1 : Int) (r : Int) (w : World) (hr0 : Kd.C (Kd.int .i64) w A0 l0.length l0) (hc0 : l0.length ≤ c0) (h : slices_Index_int_int.f k l0 a1 = some r) :
  Calls Tryz.prog 209 #[.slice A0 l0.length c0, .int .i64 a1] w fun e w' => e = .returned (.int .i64 r) ∧ Drawn0 w w' := by
 have HR0 := aM hr0
 have HC0 := aM hc0
 clear hr0 hc0
 have H := h
 unfold slices_Index_int_int.f at H
 clear h
 have H' := aM H
 clear H
 go_enter Tryz.func209, Tryz.ntmps209
 go_wp2
 go_loopg [8] k (fun kq v8 w' => ∃ (x8_1 : Int), v8 = .int .i64 x8_1 ∧ Aside0 (slices_Index_int_int.l0 kq l0 a1 (l0.length : Int) x8_1 = some r) ∧ Aside0 (kq ≤ k) ∧ Drawn0 w w')
 case atStart => exact ⟨(0), rS, H', ⟨Nat.le_refl _⟩, dX⟩
 case round =>
  clear H'
  obtain ⟨x8_1, rfl, HA, HKy1, ⟨my1, rfl⟩⟩ := hrel
  cases gk with
  | zero => exact absurd HA.out (by simp [slices_Index_int_int.l0])
  | succ k1 =>
   have H := HA.out
   clear HA
   simp only [slices_Index_int_int.l0] at H
   revert H; refine iN (fun c3b0 H => ?_) (fun c3b0 H => ?_)
   ·obtain rfl := sI H
    go_wp2
    go_ret
    exact ⟨by first | rfl | (simp; done) | (simp [*]; done), dX⟩
   replace H := ifQ H; obtain ⟨c4b0, H⟩ := H
   replace H := ifQ H; obtain ⟨c5b0, H⟩ := H
   revert H; refine eP (fun c6b0 c6b1 H => ?_) (fun c6b0 c6b1 H => ?_)
   ·obtain rfl := sI H
    have px1 : 0 ≤ (x8_1 : Int) := odA
    have qx1 : x8_1 < (l0.length : Int) := odA
    obtain ⟨adx1, ex1, hxx1⟩ := Kd.at_int HR0.out x8_1 px1 qx1
    cases ex1
    replace px1 := eq_true px1
    replace qx1 := eq_true qx1
    go_wp2
    go_ret
    exact ⟨by first | rfl | (simp; done) | (simp [*]; done), dX⟩
   have H' := aM H
   clear H
   have px1 : 0 ≤ (x8_1 : Int) := odA
   have qx1 : x8_1 < (l0.length : Int) := odA
   obtain ⟨adx1, ex1, hxx1⟩ := Kd.at_int HR0.out x8_1 px1 qx1
   cases ex1
   replace px1 := eq_true px1
   replace qx1 := eq_true qx1
   go_wp2
   go_roundg k1
   case measure => have := HKy1.out; omega
   case rel => exact ⟨(wrap64 (x8_1 + 1)), rS, H', ⟨by have := HKy1.out; omega⟩, dX⟩
def slices_Contains_int_int.f (k : Nat) (l0 : List Int) (a1 : Int) : Option (Bool) := (slices_Index_int_int.f k l0 a1).bind fun t101 => (some (decide (t101 ≥ 0)))
theorem slices_Contains_int_int.calls (k : Nat) (A0 : Option Addr) (c0 : Nat) (l0 : List Int) (a1 : Int) (r : Bool) (w : World) (hr0 : Kd.C (Kd.int .i64) w A0 l0.length l0) (hc0 : l0.length ≤ c0) (h : slices_Contains_int_int.f k l0 a1 = some r) :
  Calls Tryz.prog 175 #[.slice A0 l0.length c0, .int .i64 a1] w fun e w' => e = .returned (.bool r) ∧ Drawn0 w w' := by
 have HR0 := aM hr0
 have HC0 := aM hc0
 clear hr0 hc0
 have H := h
 unfold slices_Contains_int_int.f at H
 clear h
 replace H := bE H; obtain ⟨t101, A3, H⟩ := H
 obtain rfl := sI H
 go_enter Tryz.func175, Tryz.ntmps175
 go_wp2_with (refine gD 209 7 Tryz.func209 (slices_Index_int_int.calls _ _ _ _ _ _ _ (cX HR0.out) HC0.out A3.out) ?_; intro nd)
 go_ret
 exact ⟨by first | rfl | (simp; done) | (simp [*]; done), dX⟩
def impl_RowsOk.l0 : Nat → List Int → Int → Int → List Int → Int → Option (Bool)
 | 0, _, _, _, _, _ => none
 | k + 1, x6, x7, x8, x102000, x102001 => if x8 < x7 then (if 0 ≤ x8 then (if x8 < (x6.length : Int) then (if (rd x6 x8) = 0 then (impl_RowsOk.l0 k x6 x7 (wrap64 (x8 + 1)) x102000 x102001) else ((impl_ValOk.f (rd x6 x8)).bind fun t104 => (if t104 = true then (if x8 ≤ (x102000.length : Int) then ((slices_Contains_int_int.f k (x102000.take (x8 : Int).toNat) (rd x6 x8)).bind fun t106 => (if t106 = true then (some false) else (impl_RowsOk.l0 k x6 x7 (wrap64 (x8 + 1)) x102000 x102001))) else (none)) else (some false)))) else (none)) else (none)) else (if (x102000.length : Int) = 4 then ((impl_from.f x102001 0 5).bind fun t102 => (some t102)) else (some false))
def impl_RowsOk.f (k : Nat) (l0_0 : List Int) (a0_1 : Int) : Option (Bool) := impl_RowsOk.l0 k l0_0 (l0_0.length : Int) 0 l0_0 a0_1
theorem impl_RowsOk.calls (k : Nat) (A0_0 : Option Addr) (c0_0 : Nat) (l0_0 : List Int) (a0_1 : Int) (r : Bool) (w : World) (hr0_0 : Kd.C (Kd.int .i64) w A0_0 l0_0.length l0_0) (hc0_0 : l0_0.length ≤ c0_0) (h : impl_RowsOk.f k l0_0 a0_1 = some r) :
  Calls Tryz.prog 103 #[.agg #[.slice A0_0 l0_0.length c0_0, .int .i64 a0_1]] w fun e w' => e = .returned (.bool r) ∧ Below w.heap.size w w' := by
 have hu41 := Tryz.underlying41
 have HR0_0 := aM hr0_0
 have HC0_0 := aM hc0_0
 clear hr0_0 hc0_0
 have HB := aM (Below.refl w.heap.size w)
 have H := h
 unfold impl_RowsOk.f at H
 clear h
 have H' := aM H
 clear H
 go_enter Tryz.func103, Tryz.ntmps103
 go_wp2_with (refine boxE 1 #[.slice A0_0 l0_0.length c0_0, .int .i64 a0_1] 41 ?_; intro gbz1 hg wz1 hbox hb; have BKz1 := aM (hbox); have GWz1 := aG hg HB; have GEz1 := aG hg HB; replace HB := aS HB hb; clear hb hbox hg; have hczz1 := cZ2 BKz1.out)
 go_loopg [8] k (fun kq v8 w' => ∃ (x8_1 : Int), v8 = .int .i64 x8_1 ∧ Aside0 (impl_RowsOk.l0 kq l0_0 (l0_0.length : Int) x8_1 l0_0 a0_1 = some r) ∧ Aside0 (kq ≤ k) ∧ Aside0 (w'.heap[gbz1]? = some (.cells #[(.slice A0_0 l0_0.length c0_0), .int .i64 a0_1] 41 (0, 0))) ∧ Aside0 (Below w.heap.size w w'))
 case atStart => exact ⟨(0), rS, H', ⟨Nat.le_refl _⟩, ⟨(bX BKz1.out)⟩, ⟨(hX HB.out)⟩⟩
 case round =>
  clear H'
  try clear hczz1
  obtain ⟨x8_1, rfl, HA, HKy1, BKz1, HB⟩ := hrel
  cases gk with
  | zero => exact absurd HA.out (by simp [impl_RowsOk.l0])
  | succ k1 =>
   have H := HA.out
   clear HA
   simp only [impl_RowsOk.l0] at H
   revert H; refine iN (fun c4b0 H => ?_) (fun c4b0 H => ?_)
   ·revert H; refine eN (fun c18b0 c18b1 H => ?_) (fun c18b0 c18b1 H => ?_)
    ·obtain rfl := sI H
     have hczx1 := cZ2 BKz1.out
     exact fS
    replace H := bE H; obtain ⟨t102, A19, H⟩ := H
    obtain rfl := sI H
    have hczx1 := cZ2 BKz1.out
    go_wp2_with (go_at_call 102; (with_reducible refine (impl_from.calls _ _ _ _ _ A19.out).mono ?_); rintro e w' ⟨rfl, ⟨nd, rfl⟩⟩)
    go_ret
    exact ⟨rE, (hX HB.out)⟩
   replace H := ifQ H; obtain ⟨c5b0, H⟩ := H
   replace H := ifQ H; obtain ⟨c6b0, H⟩ := H
   revert H; refine eP (fun c7b0 c7b1 H => ?_) (fun c7b0 c7b1 H => ?_)
   ·have H' := aM H
    clear H
    obtain ⟨adx1, ex1, px1, qx1, hxx1⟩ := at_ic HR0_0 HB x8_1
    cases ex1
    go_wp2
    go_roundg k1
    case measure => have := HKy1.out; omega
    case rel => exact ⟨(wrap64 (x8_1 + 1)), rS, H', ⟨by have := HKy1.out; omega⟩, ⟨(bX BKz1.out)⟩, ⟨(hX HB.out)⟩⟩
   replace H := bE H; obtain ⟨t104, A8, H⟩ := H
   cases t104
   case false =>
    rw [if_neg nft] at H
    obtain rfl := sI H
    obtain ⟨adx1, ex1, px1, qx1, hxx1⟩ := at_ic HR0_0 HB x8_1
    cases ex1
    go_wp2_with (go_at_call 174; (with_reducible refine (impl_ValOk.calls _ _ _ A8.out).mono ?_); rintro e w' ⟨rfl, ⟨nd, rfl⟩⟩)
    go_ret
    exact ⟨rE, (hX HB.out)⟩
   rw [if_pos rfl] at H
   have c10b0 := eq_true (odA : 0 ≤ x8_1)
   replace H := ifP H; obtain ⟨c11, H⟩ := H
   have c11b0 := eq_true c11
   have c11b1 := decide_eq_true c11
   clear c11
   replace H := bE H; obtain ⟨t106, A12, H⟩ := H
   obtain ⟨adx1, ex1, px1, qx1, hxx1⟩ := at_ic HR0_0 HB x8_1
   cases ex1
   go_wp2_with (go_at_call 174; (with_reducible refine (impl_ValOk.calls _ _ _ A8.out).mono ?_); rintro e w' ⟨rfl, ⟨nd, rfl⟩⟩; have hczx1 := cZ2 BKz1.out; obtain ⟨ix1, hix1, _, hszx1, _⟩ := info_parts info3; obtain ⟨hcutx1, hAx1, hCx1⟩ := print_take_of (P := Tryz.prog) (Value.int .i64) 0 28 3 .i64 Tryz.underlying28 hix1 hszx1 (some adx1) c0_0 l0_0 x8_1 (odA) (odA) HC0_0.out; have HRx1 := aM (Kd.C_of_reads (h1 := fun _ => rfl) (hAx1 _ (Kd.reads_of_C HR0_0.out))); have HCx1 := aM hCx1; clear hAx1 hCx1 hix1 hszx1; refine Stop.out ?_)
   refine ⟨?_⟩
   cases t106
   case true =>
    rw [if_pos rfl] at H
    obtain rfl := sI H
    go_wp2_with (go_at_call 175; refine calls_of_args (args' := #[.slice (some adx1) (l0_0.take (x8_1 : Int).toNat).length c0_0, .int .i64 (rd l0_0 x8_1)]) (by first | (rw [show (l0_0.take (x8_1 : Int).toNat).length = x8_1.toNat from (by rw [List.length_take]; have h_ : (x8_1 : Int) ≤ (l0_0.length : Int) := odA; omega)] <;> rfl) | rfl) ?_; refine (slices_Contains_int_int.calls k1 _ _ (l0_0.take (x8_1 : Int).toNat) (rd l0_0 x8_1) true _ (cC HRx1.out HB.out) HCx1.out A12.out).mono ?_; rintro e w' ⟨rfl, ⟨nd, rfl⟩⟩)
    go_ret
    exact ⟨rE, (hX HB.out)⟩
   rw [if_neg nft] at H
   have H' := aM H
   clear H
   go_wp2_with (go_at_call 175; refine calls_of_args (args' := #[.slice (some adx1) (l0_0.take (x8_1 : Int).toNat).length c0_0, .int .i64 (rd l0_0 x8_1)]) (by first | (rw [show (l0_0.take (x8_1 : Int).toNat).length = x8_1.toNat from (by rw [List.length_take]; have h_ : (x8_1 : Int) ≤ (l0_0.length : Int) := odA; omega)] <;> rfl) | rfl) ?_; refine (slices_Contains_int_int.calls k1 _ _ (l0_0.take (x8_1 : Int).toNat) (rd l0_0 x8_1) false _ (cC HRx1.out HB.out) HCx1.out A12.out).mono ?_; rintro e w' ⟨rfl, ⟨nd, rfl⟩⟩)
   go_roundg k1
   case measure => have := HKy1.out; omega
   case rel => exact ⟨(wrap64 (x8_1 + 1)), rS, H', ⟨by have := HKy1.out; omega⟩, ⟨(bX BKz1.out)⟩, ⟨(hX HB.out)⟩⟩
def impl_MachineOk_1.f (a0_0 : Int) (a0_1 : Int) (a0_2 : Int) (a0_3 : Int) (a0_4 : Int) (a0_5 : Int) (a0_6 : Int) (a0_7 : Int) (l0_8 : List Int) (a1 : Int) (l2_0 : List (S140)) (l2_1 : List (S162)) (l2_2 : List (S97)) (a2_3 : Int) (l2_4 : List (S73)) (l2_5 : List Int) (l2_6 : List Int) (a2_7 : Int) : Option (Bool) := if a1 = (-1) then (some true) else ((impl_from.f a1 a0_4 a2_3).bind fun t102 => (some t102))
theorem impl_MachineOk_1.calls (a0_0 : Int) (a0_1 : Int) (a0_2 : Int) (a0_3 : Int) (a0_4 : Int) (a0_5 : Int) (a0_6 : Int) (a0_7 : Int) (A0_8 : Option Addr) (c0_8 : Nat) (l0_8 : List Int) (a1 : Int) (gc2 : Nat) (A2_0 : Option Addr) (c2_0 : Nat) (l2_0 : List (S140)) (A2_1 : Option Addr) (c2_1 : Nat) (l2_1 : List (S162)) (A2_2 : Option Addr) (c2_2 : Nat) (l2_2 : List (S97)) (a2_3 : Int) (A2_4 : Option Addr) (c2_4 : Nat) (l2_4 : List (S73)) (A2_5 : Option Addr) (c2_5 : Nat) (l2_5 : List Int) (A2_6 : Option Addr) (c2_6 : Nat) (l2_6 : List Int) (a2_7 : Int) (r : Bool) (w : World) (hr0_8 : Kd.C (Kd.int .i64) w A0_8 l0_8.length l0_8) (hc0_8 : l0_8.length ≤ c0_8) (hr2_0 : Kd.C k140 w A2_0 l2_0.length l2_0) (hc2_0 : l2_0.length ≤ c2_0) (hr2_1 : Kd.C k162 w A2_1 l2_1.length l2_1) (hc2_1 : l2_1.length ≤ c2_1) (hr2_2 : Kd.C k97 w A2_2 l2_2.length l2_2) (hc2_2 : l2_2.length ≤ c2_2) (hr2_4 : Kd.C k73 w A2_4 l2_4.length l2_4) (hc2_4 : l2_4.length ≤ c2_4) (hr2_5 : Kd.C (Kd.int .i64) w A2_5 l2_5.length l2_5) (hc2_5 : l2_5.length ≤ c2_5) (hr2_6 : Kd.C (Kd.int .i64) w A2_6 l2_6.length l2_6) (hc2_6 : l2_6.length ≤ c2_6) (hbc2 : w.heap[gc2]? = some (.cells #[.slice A2_0 l2_0.length c2_0, .slice A2_1 l2_1.length c2_1, .slice A2_2 l2_2.length c2_2, .int .i64 a2_3, .slice A2_4 l2_4.length c2_4, .slice A2_5 l2_5.length c2_5, .slice A2_6 l2_6.length c2_6, .int .i64 a2_7] 43 (0, 0))) (h : impl_MachineOk_1.f a0_0 a0_1 a0_2 a0_3 a0_4 a0_5 a0_6 a0_7 l0_8 a1 l2_0 l2_1 l2_2 a2_3 l2_4 l2_5 l2_6 a2_7 = some r) :
  Calls Tryz.prog 104 #[.agg #[.int .i64 a0_0, .int .i64 a0_1, .int .i64 a0_2, .int .i64 a0_3, .int .i64 a0_4, .int .i64 a0_5, .int .i64 a0_6, .int .i64 a0_7, .slice A0_8 l0_8.length c0_8], .int .i64 a1, .pointer (some ⟨gc2, 0, none⟩)] w fun e w' => e = .returned (.bool r) ∧ Below w.heap.size w w' := by
 have hu73 := Tryz.underlying73
 have HR0_8 := aM hr0_8
 have HC0_8 := aM hc0_8
 clear hr0_8 hc0_8
 have HR2_0 := aM hr2_0
 have HC2_0 := aM hc2_0
 clear hr2_0 hc2_0
 have HR2_1 := aM hr2_1
 have HC2_1 := aM hc2_1
 clear hr2_1 hc2_1
 have HR2_2 := aM hr2_2
 have HC2_2 := aM hc2_2
 clear hr2_2 hc2_2
 have HR2_4 := aM hr2_4
 have HC2_4 := aM hc2_4
 clear hr2_4 hc2_4
 have HR2_5 := aM hr2_5
 have HC2_5 := aM hc2_5
 clear hr2_5 hc2_5
 have HR2_6 := aM hr2_6
 have HC2_6 := aM hc2_6
 clear hr2_6 hc2_6
 have BKz1 := aM hbc2
 clear hbc2
 have HB := aM (Below.refl w.heap.size w)
 have H := h
 unfold impl_MachineOk_1.f at H
 clear h
 revert H; refine eP (fun c4b0 c4b1 H => ?_) (fun c4b0 c4b1 H => ?_)
 ·obtain rfl := sI H
  go_enter Tryz.func104, Tryz.ntmps104
  go_wp2_with (refine boxE 3 #[.int .i64 a0_0, .int .i64 a0_1, .int .i64 a0_2, .int .i64 a0_3, .int .i64 a0_4, .int .i64 a0_5, .int .i64 a0_6, .int .i64 a0_7, .slice A0_8 l0_8.length c0_8] 73 ?_; intro gbz1 hg wz1 hbox hb; have BKz2 := aM (hbox); have GWz1 := aG hg HB; have GEz1 := aG hg HB; have NBz1 := aL hg BKz1; have NBz2 := aR hg BKz1; replace BKz1 := aB BKz1 hb; replace HB := aS HB hb; clear hb hbox hg)
  go_ret
  exact ⟨rE, (hX HB.out)⟩
 replace H := bE H; obtain ⟨tz1, Az1, H⟩ := H
 obtain rfl := sI H
 go_enter Tryz.func104, Tryz.ntmps104
 go_wp2_with (first | (refine boxE 3 #[.int .i64 a0_0, .int .i64 a0_1, .int .i64 a0_2, .int .i64 a0_3, .int .i64 a0_4, .int .i64 a0_5, .int .i64 a0_6, .int .i64 a0_7, .slice A0_8 l0_8.length c0_8] 73 ?_; intro gbz1 hg wz2 hbox hb; have BKz2 := aM (hbox); have GWz1 := aG hg HB; have GEz1 := aG hg HB; have NBz1 := aL hg BKz1; have NBz2 := aR hg BKz1; replace BKz1 := aB BKz1 hb; replace HB := aS HB hb; clear hb hbox hg; have hnbz1 := NBz2.out; have hncz1 := NBz1.out; have hczz1 := cZ9 BKz2.out; have hczz10 := cZ8 BKz1.out) | (go_at_call 102; (with_reducible refine (impl_from.calls a1 a0_4 a2_3 tz1 _ Az1.out).mono ?_); rintro e w' ⟨rfl, ⟨nd, rfl⟩⟩))
 go_ret
 exact ⟨rE, (hX HB.out)⟩
def impl_KeyOk.f (a0 : Int) : Option (Bool) := (impl_from.f a0 0 3).bind fun t101 => (some t101)
theorem impl_KeyOk.calls (a0 : Int) (r : Bool) (w : World) (h : impl_KeyOk.f a0 = some r) :
  Calls Tryz.prog 176 #[.int .i64 a0] w fun e w' => e = .returned (.bool r) ∧ Drawn0 w w' := by
 have H := h
 unfold impl_KeyOk.f at H
 clear h
 replace H := bE H; obtain ⟨t101, A2, H⟩ := H
 obtain rfl := sI H
 go_enter Tryz.func176, Tryz.ntmps176
 go_wp2_with (refine gD 102 4 Tryz.func102 (impl_from.calls _ _ _ _ _ A2.out) ?_; intro nd)
 go_ret
 exact ⟨by first | rfl | (simp; done) | (simp [*]; done), dX⟩
def impl_isClass.f (a0 : Int) : Option (Bool) := (impl_from.f a0 0 2).bind fun t101 => (some t101)
theorem impl_isClass.calls (a0 : Int) (r : Bool) (w : World) (h : impl_isClass.f a0 = some r) :
  Calls Tryz.prog 177 #[.int .i64 a0] w fun e w' => e = .returned (.bool r) ∧ Drawn0 w w' := by
 have H := h
 unfold impl_isClass.f at H
 clear h
 replace H := bE H; obtain ⟨t101, A2, H⟩ := H
 obtain rfl := sI H
 go_enter Tryz.func177, Tryz.ntmps177
 go_wp2_with (refine gD 102 4 Tryz.func102 (impl_from.calls _ _ _ _ _ A2.out) ?_; intro nd)
 go_ret
 exact ⟨by first | rfl | (simp; done) | (simp [*]; done), dX⟩
mutual
def impl_OpOk.j0 : Nat → Int → Bool → Int → Int → Int → Option (Bool)
 | 0, _, _, _, _, _ => none
 | k + 1, x4, x5, x102000, x102001, x102002 => if x5 = true then ((impl_KeyOk.f x102001).bind fun t102 => (if t102 = true then ((impl_ValOk.f x102002).bind fun t103 => (some t103)) else (some false))) else (if x4 = 3 then (impl_OpOk.j1 k x4 (x4 == 3) x102000 x102001 x102002) else (impl_OpOk.j1 k x4 (x4 == 4) x102000 x102001 x102002))
def impl_OpOk.j1 : Nat → Int → Bool → Int → Int → Int → Option (Bool)
 | 0, _, _, _, _, _ => none
 | k + 1, x4, x16, x102000, x102001, x102002 => if x16 = true then ((impl_KeyOk.f x102001).bind fun t104 => (if t104 = true then (some (x102002 == 0)) else (some false))) else (if x4 = 5 then (impl_OpOk.j2 k x4 (x4 == 5) x102000 x102001 x102002) else (impl_OpOk.j2 k x4 (x4 == 10) x102000 x102001 x102002))
def impl_OpOk.j2 : Nat → Int → Bool → Int → Int → Int → Option (Bool)
 | 0, _, _, _, _, _ => none
 | k + 1, x4, x27, x102000, x102001, x102002 => if x27 = true then (if x102001 = 0 then ((impl_ValOk.f x102002).bind fun t105 => (some t105)) else (some false)) else (if x4 = 6 then ((impl_isClass.f x102001).bind fun t106 => (if t106 = true then (some (x102002 == 0)) else (some false))) else (if x4 = 7 then (if x102001 = 0 then (some (x102002 == 0)) else (some false)) else (if x4 = 8 then (if x102001 = 0 then (some (x102002 == 0)) else (some false)) else (if x4 = 9 then (if x102001 = 0 then (some (x102002 == 0)) else (some false)) else (some false)))))
end
def impl_OpOk.f (k : Nat) (a0_0 : Int) (a0_1 : Int) (a0_2 : Int) : Option (Bool) := if a0_0 = 1 then (impl_OpOk.j0 k a0_0 (a0_0 == 1) a0_0 a0_1 a0_2) else (impl_OpOk.j0 k a0_0 (a0_0 == 2) a0_0 a0_1 a0_2)
theorem impl_OpOk.calls (k : Nat) (a0_0 : Int) (a0_1 : Int) (a0_2 : Int) (r : Bool) (w : World) (h : impl_OpOk.f k a0_0 a0_1 a0_2 = some r) :
  Calls Tryz.prog 105 #[.agg #[.int .i64 a0_0, .int .i64 a0_1, .int .i64 a0_2]] w fun e w' => e = .returned (.bool r) ∧ Below w.heap.size w w' := by
 have hu69 := Tryz.underlying69
 have HB := aM (Below.refl w.heap.size w)
 have H := h
 unfold impl_OpOk.f at H
 clear h
 have HC2 := aM H
 clear H
 go_enter Tryz.func105, Tryz.ntmps105
 go_upto_if 5 with ((with_reducible refine gate_dst (N := 1) rfl ?_); refine boxE 1 #[.int .i64 a0_0, .int .i64 a0_1, .int .i64 a0_2] 69 ?_; intro gbz1 hg wz1 hbox hb; have BKz1 := aM (hbox); have GWz1 := aG hg HB; have GEz1 := aG hg HB; replace HB := aS HB hb; clear hb hbox hg; have hczz1 := cZ3 BKz1.out)
 (try simp only [Act.put, List.setIfInBounds_toArray, List.set_cons_zero, List.set_cons_succ])
 go_cut [5] (fun vz1 wc => ∃ (kq : Nat) (x5_1 : Bool), vz1 = .bool x5_1 ∧ Aside0 (impl_OpOk.j0 kq a0_0 x5_1 a0_0 a0_1 a0_2 = some r) ∧ Aside0 (kq ≤ k) ∧ Aside0 (wc.heap[gbz1]? = some (.cells #[.int .i64 a0_0, .int .i64 a0_1, .int .i64 a0_2] 69 (0, 0))) ∧ Aside0 (Below w.heap.size w wc))
 case first =>
  have H := HC2.out
  clear HC2
  revert H; refine eN (fun c5b0 c5b1 H => ?_) (fun c5b0 c5b1 H => ?_)
  ·(first | rw [c5b0] | (simp only [i64_w, i32_w]; rw [c5b0]) | skip)
   have H' := aM H
   clear H
   go_wp2
   go_meet
   case rel => exact ⟨_, ((a0_0 == 2)), rS, H', ⟨by first | omega | exact Nat.le_refl _⟩, ⟨(bX BKz1.out)⟩, ⟨(hX HB.out)⟩⟩
  (first | rw [c5b0] | (simp only [i64_w, i32_w]; rw [c5b0]) | skip)
  have H' := aM H
  clear H
  go_wp2
  go_meet
  case rel => exact ⟨_, ((a0_0 == 1)), rS, H', ⟨by first | omega | exact Nat.le_refl _⟩, ⟨(bX BKz1.out)⟩, ⟨(hX HB.out)⟩⟩
 case rest =>
  clear HC2
  try clear hczz1
  obtain ⟨kq, x5_1, rfl, HA, HJy1, BKz1, HB⟩ := hcut
  cases kq with
  | zero => exact absurd HA.out (by simp [impl_OpOk.j0])
  | succ kj1 =>
   have H := HA.out
   clear HA
   simp only [impl_OpOk.j0] at H
   cases x5_1
   case true =>
    rw [if_pos rfl] at H
    replace H := bE H; obtain ⟨t102, A7, H⟩ := H
    cases t102
    case false =>
     rw [if_neg nft] at H
     obtain rfl := sI H
     have hczx1 := cZ3 BKz1.out
     go_wp2_with (refine gD 176 10 Tryz.func176 (impl_KeyOk.calls _ _ _ A7.out) ?_; intro nd)
     go_ret
     exact ⟨rE, (hX HB.out)⟩
    rw [if_pos rfl] at H
    replace H := bE H; obtain ⟨t103, A9, H⟩ := H
    obtain rfl := sI H
    have hczx1 := cZ3 BKz1.out
    go_wp2_with (first | (refine gD 176 10 Tryz.func176 (impl_KeyOk.calls _ _ _ A7.out) ?_; intro nd) | (go_at_call 174; (with_reducible refine (impl_ValOk.calls _ _ _ A9.out).mono ?_); rintro e w' ⟨rfl, ⟨nd, rfl⟩⟩))
    go_ret
    exact ⟨rE, (hX HB.out)⟩
   rw [if_neg nft] at H
   have HC12 := aM H
   clear H
   go_upto_if 16 with (fail)
   go_cut [16] (fun vx1 wc => ∃ (kq : Nat) (x16_11 : Bool), vx1 = .bool x16_11 ∧ Aside0 (impl_OpOk.j1 kq a0_0 x16_11 a0_0 a0_1 a0_2 = some r) ∧ Aside0 (kq ≤ kj1) ∧ Aside0 (wc.heap[gbz1]? = some (.cells #[.int .i64 a0_0, .int .i64 a0_1, .int .i64 a0_2] 69 (0, 0))) ∧ Aside0 (Below w.heap.size w wc))
   case first =>
    have H := HC12.out
    clear HC12
    revert H; refine eN (fun c13b0 c13b1 H => ?_) (fun c13b0 c13b1 H => ?_)
    ·(first | rw [c13b0] | (simp only [i64_w, i32_w]; rw [c13b0]) | skip)
     have H' := aM H
     clear H
     go_wp2
     go_meet
     case rel => exact ⟨_, ((a0_0 == 4)), rS, H', ⟨by have := HJy1.out; first | omega | exact Nat.le_refl _⟩, ⟨(bX BKz1.out)⟩, ⟨(hX HB.out)⟩⟩
    (first | rw [c13b0] | (simp only [i64_w, i32_w]; rw [c13b0]) | skip)
    have H' := aM H
    clear H
    go_wp2
    go_meet
    case rel => exact ⟨_, ((a0_0 == 3)), rS, H', ⟨by have := HJy1.out; first | omega | exact Nat.le_refl _⟩, ⟨(bX BKz1.out)⟩, ⟨(hX HB.out)⟩⟩
   case rest =>
    clear HC12
    try clear hczz1
    obtain ⟨kq, x16_11, rfl, HA, HJw1, BKz1, HB⟩ := hcut
    cases kq with
    | zero => exact absurd HA.out (by simp [impl_OpOk.j1])
    | succ kj11 =>
     have H := HA.out
     clear HA
     simp only [impl_OpOk.j1] at H
     cases x16_11
     case true =>
      rw [if_pos rfl] at H
      replace H := bE H; obtain ⟨t104, A15, H⟩ := H
      cases t104
      case true =>
       rw [if_pos rfl] at H
       obtain rfl := sI H
       have hczv1 := cZ3 BKz1.out
       go_wp2_with (refine gD 176 21 Tryz.func176 (impl_KeyOk.calls _ _ _ A15.out) ?_; intro nd)
       go_ret
       exact ⟨rE, (hX HB.out)⟩
      rw [if_neg nft] at H
      obtain rfl := sI H
      have hczv1 := cZ3 BKz1.out
      go_wp2_with (refine gD 176 21 Tryz.func176 (impl_KeyOk.calls _ _ _ A15.out) ?_; intro nd)
      go_ret
      exact ⟨rE, (hX HB.out)⟩
     rw [if_neg nft] at H
     have HC19 := aM H
     clear H
     go_upto_if 27 with (fail)
     go_cut [27] (fun vv1 wc => ∃ (kq : Nat) (x27_18 : Bool), vv1 = .bool x27_18 ∧ Aside0 (impl_OpOk.j2 kq a0_0 x27_18 a0_0 a0_1 a0_2 = some r) ∧ Aside0 (kq ≤ kj11) ∧ Aside0 (wc.heap[gbz1]? = some (.cells #[.int .i64 a0_0, .int .i64 a0_1, .int .i64 a0_2] 69 (0, 0))) ∧ Aside0 (Below w.heap.size w wc))
     case first =>
      have H := HC19.out
      clear HC19
      revert H; refine eN (fun c20b0 c20b1 H => ?_) (fun c20b0 c20b1 H => ?_)
      ·(first | rw [c20b0] | (simp only [i64_w, i32_w]; rw [c20b0]) | skip)
       have H' := aM H
       clear H
       go_wp2
       go_meet
       case rel => exact ⟨_, ((a0_0 == 10)), rS, H', ⟨by have := HJy1.out; have := HJw1.out; first | omega | exact Nat.le_refl _⟩, ⟨(bX BKz1.out)⟩, ⟨(hX HB.out)⟩⟩
      (first | rw [c20b0] | (simp only [i64_w, i32_w]; rw [c20b0]) | skip)
      have H' := aM H
      clear H
      go_wp2
      go_meet
      case rel => exact ⟨_, ((a0_0 == 5)), rS, H', ⟨by have := HJy1.out; have := HJw1.out; first | omega | exact Nat.le_refl _⟩, ⟨(bX BKz1.out)⟩, ⟨(hX HB.out)⟩⟩
     case rest =>
      clear HC19
      try clear hczz1
      obtain ⟨kq, x27_18, rfl, HA, HJu1, BKz1, HB⟩ := hcut
      cases kq with
      | zero => exact absurd HA.out (by simp [impl_OpOk.j2])
      | succ kj18 =>
       have H := HA.out
       clear HA
       simp only [impl_OpOk.j2] at H
       cases x27_18
       case true =>
        rw [if_pos rfl] at H
        revert H; refine eN (fun c22b0 c22b1 H => ?_) (fun c22b0 c22b1 H => ?_)
        ·obtain rfl := sI H
         have hczt1 := cZ3 BKz1.out
         exact fS
        replace H := bE H; obtain ⟨t105, A23, H⟩ := H
        obtain rfl := sI H
        have hczt1 := cZ3 BKz1.out
        go_wp2_with (go_at_call 174; (with_reducible refine (impl_ValOk.calls _ _ _ A23.out).mono ?_); rintro e w' ⟨rfl, ⟨nd, rfl⟩⟩)
        go_ret
        exact ⟨rE, (hX HB.out)⟩
       rw [if_neg nft] at H
       revert H; refine eP (fun c26b0 c26b1 H => ?_) (fun c26b0 c26b1 H => ?_)
       ·replace H := bE H; obtain ⟨t106, A27, H⟩ := H
        cases t106
        case true =>
         rw [if_pos rfl] at H
         obtain rfl := sI H
         have hczt1 := cZ3 BKz1.out
         go_wp2_with (refine gD 177 42 Tryz.func177 (impl_isClass.calls _ _ _ A27.out) ?_; intro nd)
         go_ret
         exact ⟨rE, (hX HB.out)⟩
        rw [if_neg nft] at H
        obtain rfl := sI H
        have hczt1 := cZ3 BKz1.out
        go_wp2_with (refine gD 177 42 Tryz.func177 (impl_isClass.calls _ _ _ A27.out) ?_; intro nd)
        go_ret
        exact ⟨rE, (hX HB.out)⟩
       revert H; refine eP (fun c31b0 c31b1 H => ?_) (fun c31b0 c31b1 H => ?_)
       ·revert H; refine eN (fun c32b0 c32b1 H => ?_) (fun c32b0 c32b1 H => ?_)
        ·obtain rfl := sI H
         have hczt1 := cZ3 BKz1.out
         exact fS
        obtain rfl := sI H
        have hczt1 := cZ3 BKz1.out
        exact fS
       revert H; refine eP (fun c35b0 c35b1 H => ?_) (fun c35b0 c35b1 H => ?_)
       ·revert H; refine eN (fun c36b0 c36b1 H => ?_) (fun c36b0 c36b1 H => ?_)
        ·obtain rfl := sI H
         have hczt1 := cZ3 BKz1.out
         exact fS
        obtain rfl := sI H
        have hczt1 := cZ3 BKz1.out
        exact fS
       revert H; refine eN (fun c39b0 c39b1 H => ?_) (fun c39b0 c39b1 H => ?_)
       ·obtain rfl := sI H
        exact fS
       revert H; refine eN (fun c40b0 c40b1 H => ?_) (fun c40b0 c40b1 H => ?_)
       ·obtain rfl := sI H
        have hczt1 := cZ3 BKz1.out
        exact fS
       obtain rfl := sI H
       have hczt1 := cZ3 BKz1.out
       exact fS
def impl_ThreadOk_1.f (k : Nat) (a0_0 : Int) (a0_1 : Int) (a0_2 : Int) : Option (Bool) := (impl_OpOk.f k a0_0 a0_1 a0_2).bind fun t102 => (some (!t102))
theorem impl_ThreadOk_1.calls (k : Nat) (a0_0 : Int) (a0_1 : Int) (a0_2 : Int) (r : Bool) (w : World) (h : impl_ThreadOk_1.f k a0_0 a0_1 a0_2 = some r) :
  Calls Tryz.prog 179 #[.agg #[.int .i64 a0_0, .int .i64 a0_1, .int .i64 a0_2]] w fun e w' => e = .returned (.bool r) ∧ Below w.heap.size w w' := by
 have hu69 := Tryz.underlying69
 have HB := aM (Below.refl w.heap.size w)
 have H := h
 unfold impl_ThreadOk_1.f at H
 clear h
 replace H := bE H; obtain ⟨t102, A2, H⟩ := H
 obtain rfl := sI H
 go_enter Tryz.func179, Tryz.ntmps179
 go_wp2_with (first | (refine boxE 1 #[.int .i64 a0_0, .int .i64 a0_1, .int .i64 a0_2] 69 ?_; intro gbz1 hg wz1 hbox hb; have BKz1 := aM (hbox); have GWz1 := aG hg HB; have GEz1 := aG hg HB; replace HB := aS HB hb; clear hb hbox hg; have hczz1 := cZ3 BKz1.out) | (refine gB 105 4 Tryz.func105 (impl_OpOk.calls _ _ _ _ _ _ A2.out) ?_; intro wz2 hb; replace BKz1 := aB BKz1 hb; replace HB := aS HB hb; clear hb))
 go_ret
 exact ⟨rE, (hX HB.out)⟩
def impl_Op_210_179.l0 : Nat → List (S69) → Int → Int → Option (Int)
 | 0, _, _, _ => none
 | k + 1, x0, x7, x8 => if x8 < x7 then (if 0 ≤ x8 then (if x8 < (x0.length : Int) then ((impl_ThreadOk_1.f k ((rd_T69 x0 x8).f0) ((rd_T69 x0 x8).f1) ((rd_T69 x0 x8).f2)).bind fun t102 => (if t102 = true then (some x8) else (impl_Op_210_179.l0 k x0 x7 (wrap64 (x8 + 1))))) else (none)) else (none)) else (some (-1))
def impl_Op_210_179.f (k : Nat) (l0 : List (S69))  : Option (Int) := impl_Op_210_179.l0 k l0 (l0.length : Int) 0
theorem impl_Op_210_179.calls (k : Nat) (A0 : Option Addr) (c0 : Nat) (l0 : List (S69))  (r : Int) (w : World) (hr0 : Kd.C k69 w A0 l0.length l0) (hc0 : l0.length ≤ c0) (h : impl_Op_210_179.f k l0 = some r) :
  Calls Tryz.prog 210 #[.slice A0 l0.length c0, .func (.func 179) #[] #[]] w fun e w' => e = .returned (.int .i64 r) ∧ Below w.heap.size w w' := by
 have hu69 := Tryz.underlying69
 have HR0 := aM hr0
 have HC0 := aM hc0
 clear hr0 hc0
 have HB := aM (Below.refl w.heap.size w)
 have H := h
 unfold impl_Op_210_179.f at H
 clear h
 have H' := aM H
 clear H
 go_enter Tryz.func210, Tryz.ntmps210
 go_wp2
 go_loopg [8] k (fun kq v8 w' => ∃ (x8_1 : Int), v8 = .int .i64 x8_1 ∧ Aside0 (impl_Op_210_179.l0 kq l0 (l0.length : Int) x8_1 = some r) ∧ Aside0 (kq ≤ k) ∧ Aside0 (Below w.heap.size w w'))
 case atStart => exact ⟨(0), rS, H', ⟨Nat.le_refl _⟩, ⟨(hX HB.out)⟩⟩
 case round =>
  clear H'
  obtain ⟨x8_1, rfl, HA, HKy1, HB⟩ := hrel
  cases gk with
  | zero => exact absurd HA.out (by simp [impl_Op_210_179.l0])
  | succ k1 =>
   have H := HA.out
   clear HA
   simp only [impl_Op_210_179.l0] at H
   revert H; refine iN (fun c3b0 H => ?_) (fun c3b0 H => ?_)
   ·obtain rfl := sI H
    exact fS
   replace H := ifQ H; obtain ⟨c4b0, H⟩ := H
   replace H := ifQ H; obtain ⟨c5b0, H⟩ := H
   replace H := bE H; obtain ⟨t102, A6, H⟩ := H
   cases t102
   case true =>
    rw [if_pos rfl] at H
    obtain rfl := sI H
    obtain ⟨adx1, ex1, px1, qx1, hxx1⟩ := at_T69c HR0 HB x8_1
    cases ex1
    go_wp2_with ((with_reducible refine Go.Proofs.YtmljebgideecjaaGreatZ.gate_calleeT (t := 11) rfl ?_); refine Go.Proofs.YtmljebgideecjaaGreatZ.goesT_ (some 16) 11 rfl rfl Tryz.func179 (by kernel_rfl) rfl #[.agg #[.int .i64 ((rd_T69 l0 x8_1).f0), .int .i64 ((rd_T69 l0 x8_1).f1), .int .i64 ((rd_T69 l0 x8_1).f2)]] rfl rfl (by (try simp only [List.map_toArray, List.map_cons, List.map_nil]); first | done | rfl | (simp only [List.length_drop, List.length_take]; rfl)) ?_; (with_reducible refine (impl_ThreadOk_1.calls _ _ _ _ _ _ A6.out).mono ?_); rintro e wx1 ⟨rfl, hb⟩; refine ⟨_, rfl, ?_⟩; replace HB := aS HB hb; clear hb)
    go_ret
    exact ⟨rE, (hX HB.out)⟩
   rw [if_neg nft] at H
   have H' := aM H
   clear H
   obtain ⟨adx1, ex1, px1, qx1, hxx1⟩ := at_T69c HR0 HB x8_1
   cases ex1
   go_wp2_with ((with_reducible refine Go.Proofs.YtmljebgideecjaaGreatZ.gate_calleeT (t := 11) rfl ?_); refine Go.Proofs.YtmljebgideecjaaGreatZ.goesT_ (some 16) 11 rfl rfl Tryz.func179 (by kernel_rfl) rfl #[.agg #[.int .i64 ((rd_T69 l0 x8_1).f0), .int .i64 ((rd_T69 l0 x8_1).f1), .int .i64 ((rd_T69 l0 x8_1).f2)]] rfl rfl (by (try simp only [List.map_toArray, List.map_cons, List.map_nil]); first | done | rfl | (simp only [List.length_drop, List.length_take]; rfl)) ?_; (with_reducible refine (impl_ThreadOk_1.calls _ _ _ _ _ _ A6.out).mono ?_); rintro e wx1 ⟨rfl, hb⟩; refine ⟨_, rfl, ?_⟩; replace HB := aS HB hb; clear hb)
   go_roundg k1
   case measure => have := HKy1.out; omega
   case rel => exact ⟨(wrap64 (x8_1 + 1)), rS, H', ⟨by have := HKy1.out; omega⟩, ⟨(hX HB.out)⟩⟩
end Go.Proofs.YtmljebgideecjaaGreat.P2
