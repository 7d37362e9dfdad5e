/- A part of the proof of the law FnExactJudgeSo: texts of this seat, merged (words, printed functions of the program, plain lemmas). Conditions: none of its own. -/
import Derived.Test.YtmljebgideecjaaGreatP2kFnExactJudgeSo1
import Derived.Test.YtmljebgideecjaaGreatP2kFnExactJudgeSo4
import Derived.Test.YtmljebgideecjaaGreatP2kFnExactJudgeSo5
import Derived.Test.YtmljebgideecjaaGreatP2kFnExactJudgeSo6
import Derived.Test.YtmljebgideecjaaGreatP2kFnExactJudgeSo12
import Derived.Test.YtmljebgideecjaaGreatP2kFnExactJudgeSo13
set_option linter.unusedSimpArgs false
set_option linter.unusedVariables false
set_option maxHeartbeats 8000000
set_option maxRecDepth 100000
namespace Go.Proofs.YtmljebgideecjaaGreat.P2
open Go.Proofs.YtmljebgideecjaaGreatZ Go.RowKit Go.Proofs.YtmljebgideecjaaGreatW.PrintWords Go.Proofs.YtmljebgideecjaaGreatW.PrintLast Go.Proofs.YtmljebgideecjaaGreatW.PrintMore
attribute [local go_sem] max2_int min2_int max_two min_two max_three min_three max_four min_four   -- for this text's walks alone
def spec_l4Key.f (a0 : Int) : Option (Bool) := (spec_l1In.f a0 1 4).bind fun t101 => (some t101)
theorem spec_l4Key.calls (a0 : Int) (r : Bool) (w : World) (h : spec_l4Key.f a0 = some r) :
  Calls Tryz.prog 192 #[.int .i64 a0] w fun e w' => e = .returned (.bool r) ∧ Drawn0 w w' := by
 have H := h
 unfold spec_l4Key.f at H
 clear h
 replace H := bE H; obtain ⟨t101, A2, H⟩ := H
 obtain rfl := sI H
 go_enter Tryz.func192, Tryz.ntmps192
 go_wp2_with (refine gD 43 4 Tryz.func43 (spec_l1In.calls _ _ _ _ _ A2.out) ?_; intro nd)
 go_ret
 exact ⟨by first | rfl | (simp; done) | (simp [*]; done), dX⟩
def spec_l4Val.f (a0 : Int) : Option (Bool) := if a0 = 1 then (some true) else (if a0 = 2 then (some true) else (if a0 = 5 then (some true) else (some (a0 == 10))))
theorem spec_l4Val.calls (a0 : Int) (r : Bool) (w : World) (h : spec_l4Val.f a0 = some r) :
  Calls Tryz.prog 193 #[.int .i64 a0] w fun e w' => e = .returned (.bool r) ∧ Drawn0 w w' := by
 have H := h
 unfold spec_l4Val.f at H
 clear h
 go_enter Tryz.func193, Tryz.ntmps193
 revert H; refine eP (fun c2b0 c2b1 H => ?_) (fun c2b0 c2b1 H => ?_)
 ·obtain rfl := sI H
  go_wp2
  go_ret
  exact ⟨by first | rfl | (simp; done) | (simp [*]; done), dX⟩
 revert H; refine eP (fun c3b0 c3b1 H => ?_) (fun c3b0 c3b1 H => ?_)
 ·obtain rfl := sI H
  go_wp2
  go_ret
  exact ⟨by first | rfl | (simp; done) | (simp [*]; done), dX⟩
 revert H; refine eN (fun c4b0 c4b1 H => ?_) (fun c4b0 c4b1 H => ?_)
 ·obtain rfl := sI H
  go_wp2
  go_ret
  exact ⟨by first | rfl | (simp; done) | (simp [*]; done), dX⟩
 obtain rfl := sI H
 go_wp2
 go_ret
 exact ⟨by first | rfl | (simp; done) | (simp [*]; done), dX⟩
def spec_KeyOk.f (a0 : Int) : Option (Bool) := (spec_l1In.f a0 0 3).bind fun t101 => (some t101)
theorem spec_KeyOk.calls (a0 : Int) (r : Bool) (w : World) (h : spec_KeyOk.f a0 = some r) :
  Calls Tryz.prog 198 #[.int .i64 a0] w fun e w' => e = .returned (.bool r) ∧ Drawn0 w w' := by
 have H := h
 unfold spec_KeyOk.f at H
 clear h
 replace H := bE H; obtain ⟨t101, A2, H⟩ := H
 obtain rfl := sI H
 go_enter Tryz.func198, Tryz.ntmps198
 go_wp2_with (refine gD 43 4 Tryz.func43 (spec_l1In.calls _ _ _ _ _ A2.out) ?_; intro nd)
 go_ret
 exact ⟨by first | rfl | (simp; done) | (simp [*]; done), dX⟩
mutual
def spec_OpOk.j0 : Nat → Bool → Int → Int → Int → Option (Bool)
 | 0, _, _, _, _ => none
 | k + 1, x3, x102000, x102001, x102002 => if x102000 = 6 then ((spec_l1In.f x102001 0 2).bind fun t105 => (spec_OpOk.j1 k t105 x102000 x102001 x102002)) else (spec_OpOk.j1 k x3 x102000 x102001 x102002)
def spec_OpOk.j1 : Nat → Bool → Int → Int → Int → Option (Bool)
 | 0, _, _, _, _ => none
 | k + 1, x3, x102000, x102001, x102002 => (spec_l4Val.f x102000).bind fun t106 => (if t106 = true then (if x3 = true then ((spec_ValOk.f x102002).bind fun t107 => (some t107)) else (some false)) else (if x3 = true then (some (x102002 == 0)) else (some false)))
end
def spec_OpOk.f (k : Nat) (a0_0 : Int) (a0_1 : Int) (a0_2 : Int) : Option (Bool) := (spec_l1In.f a0_0 1 10).bind fun t102 => (if t102 = true then ((spec_l4Key.f a0_0).bind fun t103 => (if t103 = true then ((spec_KeyOk.f a0_1).bind fun t104 => (spec_OpOk.j0 k t104 a0_0 a0_1 a0_2)) else (spec_OpOk.j0 k (a0_1 == 0) a0_0 a0_1 a0_2))) else (some false))
theorem spec_OpOk.calls (k : Nat) (a0_0 : Int) (a0_1 : Int) (a0_2 : Int) (r : Bool) (w : World) (h : spec_OpOk.f k a0_0 a0_1 a0_2 = some r) :
  Calls Tryz.prog 138 #[.agg #[.int .i64 a0_0, .int .i64 a0_1, .int .i64 a0_2]] w fun e w' => e = .returned (.bool r) ∧ Below w.heap.size w w' := by
 have hu69 := Tryz.underlying69
 have HB := aM (Below.refl w.heap.size w)
 have H := h
 unfold spec_OpOk.f at H
 clear h
 replace H := bE H; obtain ⟨t102, A2, H⟩ := H
 go_enter Tryz.func138, Tryz.ntmps138
 cases t102
 case false =>
  rw [if_neg nft] at H
  obtain rfl := sI H
  go_wp2_with (first | (refine boxE 1 #[.int .i64 a0_0, .int .i64 a0_1, .int .i64 a0_2] 69 ?_; intro gbz1 hg wz1 hbox hb; have BKz1 := aM (hbox); have GWz1 := aG hg HB; have GEz1 := aG hg HB; replace HB := aS HB hb; clear hb hbox hg; have hczz1 := cZ3 BKz1.out) | (refine gD 43 6 Tryz.func43 (spec_l1In.calls _ _ _ _ _ A2.out) ?_; intro nd))
  go_ret
  exact ⟨rE, (hX HB.out)⟩
 rw [if_pos rfl] at H
 replace H := bE H; obtain ⟨t103, A4, H⟩ := H
 have HC5 := aM H
 clear H
 go_upto_if 13 with (first | ((with_reducible refine gate_dst (N := 1) rfl ?_); refine boxE 1 #[.int .i64 a0_0, .int .i64 a0_1, .int .i64 a0_2] 69 ?_; intro gbz1 hg wz1 hbox hb; have BKz1 := aM (hbox); have GWz1 := aG hg HB; have GEz1 := aG hg HB; replace HB := aS HB hb; clear hb hbox hg; have hczz1 := cZ3 BKz1.out) | ((with_reducible refine gate_callee (f := 43) rfl ?_); refine gD 43 6 Tryz.func43 (spec_l1In.calls _ _ _ _ _ A2.out) ?_; intro nd) | ((with_reducible refine gate_callee (f := 192) rfl ?_); refine gD 192 13 Tryz.func192 (spec_l4Key.calls _ _ _ A4.out) ?_; intro nd))
 (try simp only [Act.put, List.setIfInBounds_toArray, List.set_cons_zero, List.set_cons_succ])
 go_cut [3] (fun vz1 wc => ∃ (kq : Nat) (x3_4 : Bool), vz1 = .bool x3_4 ∧ Aside0 (spec_OpOk.j0 kq x3_4 a0_0 a0_1 a0_2 = some r) ∧ Aside0 (kq ≤ k) ∧ Aside0 (wc.heap[gbz1]? = some (.cells #[.int .i64 a0_0, .int .i64 a0_1, .int .i64 a0_2] 69 (0, 0))) ∧ Aside0 (Below w.heap.size w wc))
 case first =>
  have H := HC5.out
  clear HC5
  cases t103
  case false =>
   rw [if_neg nft] at H
   have H' := aM H
   clear H
   go_wp2
   go_meet
   case rel => exact ⟨_, ((a0_1 == 0)), rS, H', ⟨by first | omega | exact Nat.le_refl _⟩, ⟨(bX BKz1.out)⟩, ⟨(hX HB.out)⟩⟩
  rw [if_pos rfl] at H
  replace H := bE H; obtain ⟨t104, A9, H⟩ := H
  have H' := aM H
  clear H
  have hczy1 := cZ3 BKz1.out
  go_wp2_with (refine gD 198 16 Tryz.func198 (spec_KeyOk.calls _ _ _ A9.out) ?_; intro nd)
  go_meet
  case rel => exact ⟨_, (t104), rS, H', ⟨by first | omega | exact Nat.le_refl _⟩, ⟨(bX BKz1.out)⟩, ⟨(hX HB.out)⟩⟩
 case rest =>
  clear HC5
  try clear hczz1
  obtain ⟨kq, x3_4, rfl, HA, HJy1, BKz1, HB⟩ := hcut
  cases kq with
  | zero => exact absurd HA.out (by simp [spec_OpOk.j0])
  | succ kj4 =>
   have H := HA.out
   clear HA
   simp only [spec_OpOk.j0] at H
   have HC11 := aM H
   clear H
   have hczx1 := cZ3 BKz1.out
   go_upto_if 19 with (fail)
   go_cut [3] (fun vz1 wc => ∃ (kq : Nat) (x3_10 : Bool), vz1 = .bool x3_10 ∧ Aside0 (spec_OpOk.j1 kq x3_10 a0_0 a0_1 a0_2 = some r) ∧ Aside0 (kq ≤ kj4) ∧ Aside0 (wc.heap[gbz1]? = some (.cells #[.int .i64 a0_0, .int .i64 a0_1, .int .i64 a0_2] 69 (0, 0))) ∧ Aside0 (Below w.heap.size w wc))
   case first =>
    have H := HC11.out
    clear HC11
    revert H; refine eN (fun c13b0 c13b1 H => ?_) (fun c13b0 c13b1 H => ?_)
    ·(first | rw [c13b0] | (simp only [i64_w, i32_w]; rw [c13b0]) | skip)
     have H' := aM H
     clear H
     go_wp2
     go_meet
     case rel => exact ⟨_, (x3_4), rS, H', ⟨by have := HJy1.out; first | omega | exact Nat.le_refl _⟩, ⟨(bX BKz1.out)⟩, ⟨(hX HB.out)⟩⟩
    (first | rw [c13b0] | (simp only [i64_w, i32_w]; rw [c13b0]) | skip)
    replace H := bE H; obtain ⟨t105, A14, H⟩ := H
    have H' := aM H
    clear H
    have hczw1 := cZ3 BKz1.out
    go_wp2_with (refine gD 43 22 Tryz.func43 (spec_l1In.calls _ _ _ _ _ A14.out) ?_; intro nd)
    go_meet
    case rel => exact ⟨_, (t105), rS, H', ⟨by have := HJy1.out; first | omega | exact Nat.le_refl _⟩, ⟨(bX BKz1.out)⟩, ⟨(hX HB.out)⟩⟩
   case rest =>
    clear HC11
    try clear hczx1
    try clear hczz1
    obtain ⟨kq, x3_10, rfl, HA, HJw1, BKz1, HB⟩ := hcut
    cases kq with
    | zero => exact absurd HA.out (by simp [spec_OpOk.j1])
    | succ kj10 =>
     have H := HA.out
     clear HA
     simp only [spec_OpOk.j1] at H
     replace H := bE H; obtain ⟨t106, A16, H⟩ := H
     cases t106
     case false =>
      rw [if_neg nft] at H
      have hczv1 := cZ3 BKz1.out
      go_wp2_with (refine gD 193 25 Tryz.func193 (spec_l4Val.calls _ _ _ A16.out) ?_; intro nd; refine Stop.out ?_)
      refine ⟨?_⟩
      cases x3_10
      case true =>
       rw [if_pos rfl] at H
       exact fR
      rw [if_neg nft] at H
      exact fR
     rw [if_pos rfl] at H
     have hczv1 := cZ3 BKz1.out
     go_wp2_with (refine gD 193 25 Tryz.func193 (spec_l4Val.calls _ _ _ A16.out) ?_; intro nd; refine Stop.out ?_)
     refine ⟨?_⟩
     cases x3_10
     case false =>
      rw [if_neg nft] at H
      exact fR
     rw [if_pos rfl] at H
     replace H := bE H; obtain ⟨t107, A19, H⟩ := H
     obtain rfl := sI H
     go_wp2_with (go_at_call 159; (with_reducible refine (spec_ValOk.calls _ _ _ A19.out).mono ?_); rintro e w' ⟨rfl, ⟨nd, rfl⟩⟩)
     go_ret
     exact ⟨rE, (hX HB.out)⟩
def spec_l9Call.f (k : Nat) (l0_0 : List (S140)) (l0_1 : List (S162)) (l0_2 : List (S97)) (a0_3 : Int) (l0_4 : List (S73)) (l0_5 : List Int) (l0_6 : List Int) (a0_7 : Int) (a1_0 : Int) (a1_1 : Int) (a1_2 : Int) (a1_3 : Int) (a1_4 : Int) (a1_5 : Int) (a1_6 : Int) (a1_7 : Int) (l1_8 : List Int) : Option (Bool) := (spec_l1In.f a1_0 0 (wrap64 ((l0_2.length : Int) - 1))).bind fun t103 => (if t103 = true then ((spec_OpOk.f k a1_1 a1_2 a1_3).bind fun t104 => (if t104 = true then ((spec_l1In.f a1_4 0 a0_3).bind fun t105 => (if t105 = true then (if a1_5 = (-1) then (if a1_6 = (-1) then (some true) else ((spec_l1In.f a1_6 a1_4 a0_3).bind fun t106 => (some t106))) else ((spec_l1In.f a1_5 a1_4 a0_3).bind fun t107 => (if t107 = true then (if a1_6 = (-1) then (some true) else ((spec_l1In.f a1_6 a1_4 a0_3).bind fun t108 => (some t108))) else (some false)))) else (some false))) else (some false))) else (some false))
theorem spec_l9Call.calls (k : Nat) (A0_0 : Option Addr) (c0_0 : Nat) (l0_0 : List (S140)) (A0_1 : Option Addr) (c0_1 : Nat) (l0_1 : List (S162)) (A0_2 : Option Addr) (c0_2 : Nat) (l0_2 : List (S97)) (a0_3 : Int) (A0_4 : Option Addr) (c0_4 : Nat) (l0_4 : List (S73)) (A0_5 : Option Addr) (c0_5 : Nat) (l0_5 : List Int) (A0_6 : Option Addr) (c0_6 : Nat) (l0_6 : List Int) (a0_7 : Int) (a1_0 : Int) (a1_1 : Int) (a1_2 : Int) (a1_3 : Int) (a1_4 : Int) (a1_5 : Int) (a1_6 : Int) (a1_7 : Int) (A1_8 : Option Addr) (c1_8 : Nat) (l1_8 : List Int) (r : Bool) (w : World) (hr0_0 : Kd.C k140 w A0_0 l0_0.length l0_0) (hc0_0 : l0_0.length ≤ c0_0) (hr0_1 : Kd.C k162 w A0_1 l0_1.length l0_1) (hc0_1 : l0_1.length ≤ c0_1) (hr0_2 : Kd.C k97 w A0_2 l0_2.length l0_2) (hc0_2 : l0_2.length ≤ c0_2) (hr0_4 : Kd.C k73 w A0_4 l0_4.length l0_4) (hc0_4 : l0_4.length ≤ c0_4) (hr0_5 : Kd.C (Kd.int .i64) w A0_5 l0_5.length l0_5) (hc0_5 : l0_5.length ≤ c0_5) (hr0_6 : Kd.C (Kd.int .i64) w A0_6 l0_6.length l0_6) (hc0_6 : l0_6.length ≤ c0_6) (hr1_8 : Kd.C (Kd.int .i64) w A1_8 l1_8.length l1_8) (hc1_8 : l1_8.length ≤ c1_8) (h : spec_l9Call.f k l0_0 l0_1 l0_2 a0_3 l0_4 l0_5 l0_6 a0_7 a1_0 a1_1 a1_2 a1_3 a1_4 a1_5 a1_6 a1_7 l1_8 = some r) :
  Calls Tryz.prog 161 #[.agg #[.slice A0_0 l0_0.length c0_0, .slice A0_1 l0_1.length c0_1, .slice A0_2 l0_2.length c0_2, .int .i64 a0_3, .slice A0_4 l0_4.length c0_4, .slice A0_5 l0_5.length c0_5, .slice A0_6 l0_6.length c0_6, .int .i64 a0_7], .agg #[.int .i64 a1_0, .int .i64 a1_1, .int .i64 a1_2, .int .i64 a1_3, .int .i64 a1_4, .int .i64 a1_5, .int .i64 a1_6, .int .i64 a1_7, .slice A1_8 l1_8.length c1_8]] w fun e w' => e = .returned (.bool r) ∧ Below w.heap.size w w' := by
 have hu43 := Tryz.underlying43
 have hu73 := Tryz.underlying73
 have hu69 := Tryz.underlying69
 have HR0_0 := aM hr0_0
 have HC0_0 := aM hc0_0
 clear hr0_0 hc0_0
 have HR0_1 := aM hr0_1
 have HC0_1 := aM hc0_1
 clear hr0_1 hc0_1
 have HR0_2 := aM hr0_2
 have HC0_2 := aM hc0_2
 clear hr0_2 hc0_2
 have HR0_4 := aM hr0_4
 have HC0_4 := aM hc0_4
 clear hr0_4 hc0_4
 have HR0_5 := aM hr0_5
 have HC0_5 := aM hc0_5
 clear hr0_5 hc0_5
 have HR0_6 := aM hr0_6
 have HC0_6 := aM hc0_6
 clear hr0_6 hc0_6
 have HR1_8 := aM hr1_8
 have HC1_8 := aM hc1_8
 clear hr1_8 hc1_8
 have HB := aM (Below.refl w.heap.size w)
 have H := h
 unfold spec_l9Call.f at H
 clear h
 replace H := bE H; obtain ⟨t103, A3, H⟩ := H
 go_enter Tryz.func161, Tryz.ntmps161
 go_wp2_with (first | ((with_reducible refine gate_dst (N := 2) rfl ?_); refine boxE 2 #[.slice A0_0 l0_0.length c0_0, .slice A0_1 l0_1.length c0_1, .slice A0_2 l0_2.length c0_2, .int .i64 a0_3, .slice A0_4 l0_4.length c0_4, .slice A0_5 l0_5.length c0_5, .slice A0_6 l0_6.length c0_6, .int .i64 a0_7] 43 ?_; intro gbz1 hg wz1 hbox hb; have BKz1 := aM (hbox); have GWz1 := aG hg HB; have GEz1 := aG hg HB; replace HB := aS HB hb; clear hb hbox hg) | ((with_reducible refine gate_dst (N := 3) rfl ?_); refine boxE 3 #[.int .i64 a1_0, .int .i64 a1_1, .int .i64 a1_2, .int .i64 a1_3, .int .i64 a1_4, .int .i64 a1_5, .int .i64 a1_6, .int .i64 a1_7, .slice A1_8 l1_8.length c1_8] 73 ?_; intro gbz2 hg wz2 hbox hb; have BKz2 := aM (hbox); have GWz2 := aG hg HB; have GEz2 := aG hg HB; have NBz1 := aL hg BKz1; have NBz2 := aR hg BKz1; replace BKz1 := aB BKz1 hb; replace HB := aS HB hb; clear hb hbox hg; have hnbz1 := NBz2.out; have hncz1 := NBz1.out; have hczz1 := cZ9 BKz2.out; have hczz10 := cZ8 BKz1.out; refine Stop.out ?_))
 refine ⟨?_⟩
 cases t103
 case false =>
  rw [if_neg nft] at H
  obtain rfl := sI H
  go_wp2_with ((with_reducible refine gate_callee (f := 43) rfl ?_); refine gD 43 11 Tryz.func43 (spec_l1In.calls _ _ _ _ _ A3.out) ?_; intro nd)
  go_ret
  exact ⟨rE, (hX HB.out)⟩
 rw [if_pos rfl] at H
 replace H := bE H; obtain ⟨t104, A5, H⟩ := H
 go_wp2_with ((with_reducible refine gate_callee (f := 43) rfl ?_); refine gD 43 11 Tryz.func43 (spec_l1In.calls _ _ _ _ _ A3.out) ?_; intro nd; refine Stop.out ?_)
 refine ⟨?_⟩
 cases t104
 case false =>
  rw [if_neg nft] at H
  obtain rfl := sI H
  go_wp2_with (go_at_call 138; (with_reducible refine (spec_OpOk.calls _ _ _ _ _ _ A5.out).mono ?_); rintro e wz3 ⟨rfl, hb⟩; replace BKz1 := aB BKz1 hb; replace BKz2 := aB BKz2 hb; replace HB := aS HB hb; clear hb)
  go_ret
  exact ⟨rE, (hX HB.out)⟩
 rw [if_pos rfl] at H
 replace H := bE H; obtain ⟨t105, A7, H⟩ := H
 go_wp2_with (go_at_call 138; (with_reducible refine (spec_OpOk.calls _ _ _ _ _ _ A5.out).mono ?_); rintro e wz3 ⟨rfl, hb⟩; replace BKz1 := aB BKz1 hb; replace BKz2 := aB BKz2 hb; replace HB := aS HB hb; clear hb; have hczz18 := cZ9 BKz2.out; have hczz27 := cZ8 BKz1.out; refine Stop.out ?_)
 refine ⟨?_⟩
 cases t105
 case false =>
  rw [if_neg nft] at H
  obtain rfl := sI H
  go_wp2_with (go_at_call 43; (with_reducible refine (spec_l1In.calls _ _ _ _ _ A7.out).mono ?_); rintro e w' ⟨rfl, ⟨nd, rfl⟩⟩)
  go_ret
  exact ⟨rE, (hX HB.out)⟩
 rw [if_pos rfl] at H
 go_wp2_with (go_at_call 43; (with_reducible refine (spec_l1In.calls _ _ _ _ _ A7.out).mono ?_); rintro e w' ⟨rfl, ⟨nd, rfl⟩⟩; refine Stop.out ?_)
 refine ⟨?_⟩
 revert H; refine eP (fun c9b0 c9b1 H => ?_) (fun c9b0 c9b1 H => ?_)
 ·revert H; refine eP (fun c10b0 c10b1 H => ?_) (fun c10b0 c10b1 H => ?_)
  ·obtain rfl := sI H
   exact fS
  replace H := bE H; obtain ⟨t106, A19, H⟩ := H
  obtain rfl := sI H
  go_wp2_with (go_at_call 43; (with_reducible refine (spec_l1In.calls _ _ _ _ _ A19.out).mono ?_); rintro e w' ⟨rfl, ⟨nd, rfl⟩⟩)
  go_ret
  exact ⟨rE, (hX HB.out)⟩
 replace H := bE H; obtain ⟨t107, A28, H⟩ := H
 cases t107
 case false =>
  rw [if_neg nft] at H
  obtain rfl := sI H
  go_wp2_with (go_at_call 43; (with_reducible refine (spec_l1In.calls _ _ _ _ _ A28.out).mono ?_); rintro e w' ⟨rfl, ⟨nd, rfl⟩⟩)
  go_ret
  exact ⟨rE, (hX HB.out)⟩
 rw [if_pos rfl] at H
 go_wp2_with (go_at_call 43; (with_reducible refine (spec_l1In.calls _ _ _ _ _ A28.out).mono ?_); rintro e w' ⟨rfl, ⟨nd, rfl⟩⟩; refine Stop.out ?_)
 refine ⟨?_⟩
 revert H; refine eP (fun c30b0 c30b1 H => ?_) (fun c30b0 c30b1 H => ?_)
 ·obtain rfl := sI H
  exact fS
 replace H := bE H; obtain ⟨t108, A39, H⟩ := H
 obtain rfl := sI H
 go_wp2_with (go_at_call 43; (with_reducible refine (spec_l1In.calls _ _ _ _ _ A39.out).mono ?_); rintro e w' ⟨rfl, ⟨nd, rfl⟩⟩)
 go_ret
 exact ⟨rE, (hX HB.out)⟩
def spec_l1Bit.f (a0 : Bool) : Option (Int) := if a0 = true then (some 1) else (some 0)
theorem spec_l1Bit.calls (a0 : Bool) (r : Int) (w : World) (h : spec_l1Bit.f a0 = some r) :
  Calls Tryz.prog 162 #[.bool a0] w fun e w' => e = .returned (.int .i64 r) ∧ Drawn0 w w' := by
 have H := h
 unfold spec_l1Bit.f at H
 clear h
 go_enter Tryz.func162, Tryz.ntmps162
 by_cases c2 : a0 = true
 ·subst c2
  rw [if_pos rfl] at H
  obtain rfl := sI H
  go_wp2
  go_ret
  exact ⟨by first | rfl | (simp; done) | (simp [*]; done), dX⟩
 replace c2 := Bool.eq_false_iff.mpr c2
 subst c2
 rw [if_neg nft] at H
 obtain rfl := sI H
 go_wp2
 go_ret
 exact ⟨by first | rfl | (simp; done) | (simp [*]; done), dX⟩
mutual
def spec_l9Calls.l0 : Nat → Int → Int → List (S140) → List (S162) → List (S97) → Int → List (S73) → List Int → List Int → Int → Option (Bool)
 | 0, _, _, _, _, _, _, _, _, _, _ => none
 | k + 1, x3, x4, x102000, x102001, x102002, x102003, x102004, x102005, x102006, x102007 => if x4 < (x102004.length : Int) then (if 0 ≤ x4 then ((spec_l9Call.f k x102000 x102001 x102002 x102003 x102004 x102005 x102006 x102007 ((rd_T73 x102004 x4).f0) ((rd_T73 x102004 x4).f1.f0) ((rd_T73 x102004 x4).f1.f1) ((rd_T73 x102004 x4).f1.f2) ((rd_T73 x102004 x4).f2) ((rd_T73 x102004 x4).f3) ((rd_T73 x102004 x4).f4) ((rd_T73 x102004 x4).f5.f0) ((rd_T73 x102004 x4).f5.f1)).bind fun t103 => (if t103 = true then ((spec_l1Bit.f (decide (((rd_T73 x102004 x4).f3) ≥ 0))).bind fun t105 => (spec_l9Calls.l0 k (wrap64 (x3 + t105)) (wrap64 (x4 + 1)) x102000 x102001 x102002 x102003 x102004 x102005 x102006 x102007)) else (some false))) else (none)) else (spec_l9Calls.l1 k x3 0 x102000 x102001 x102002 x102003 x102004 x102005 x102006 x102007)
def spec_l9Calls.l1 : Nat → Int → Int → List (S140) → List (S162) → List (S97) → Int → List (S73) → List Int → List Int → Int → Option (Bool)
 | 0, _, _, _, _, _, _, _, _, _, _ => none
 | k + 1, x3, x5, x102000, x102001, x102002, x102003, x102004, x102005, x102006, x102007 => if x5 < (x102005.length : Int) then (if 0 ≤ x5 then ((spec_l1In.f (rd x102005 x5) 0 (wrap64 ((x102004.length : Int) - 1))).bind fun t107 => (if t107 = true then (if 0 ≤ (rd x102005 x5) then (if (rd x102005 x5) < (x102004.length : Int) then (if ((rd_T73 x102004 (rd x102005 x5)).f3) < 0 then (spec_l9Calls.j2 k x3 x5 (rd x102005 x5) true x102000 x102001 x102002 x102003 x102004 x102005 x102006 x102007) else (if x5 > 0 then (if 0 ≤ (wrap64 (x5 - 1)) then (if (wrap64 (x5 - 1)) < (x102005.length : Int) then (if 0 ≤ (rd x102005 (wrap64 (x5 - 1))) then (if (rd x102005 (wrap64 (x5 - 1))) < (x102004.length : Int) then (spec_l9Calls.j2 k x3 x5 (rd x102005 x5) (decide (((rd_T73 x102004 (rd x102005 (wrap64 (x5 - 1)))).f3) > ((rd_T73 x102004 (rd x102005 x5)).f3))) x102000 x102001 x102002 x102003 x102004 x102005 x102006 x102007) else (none)) else (none)) else (none)) else (none)) else (spec_l9Calls.j2 k x3 x5 (rd x102005 x5) false x102000 x102001 x102002 x102003 x102004 x102005 x102006 x102007))) else (none)) else (none)) else (spec_l9Calls.j2 k x3 x5 (rd x102005 x5) true x102000 x102001 x102002 x102003 x102004 x102005 x102006 x102007))) else (none)) else (if (x102004.length : Int) ≤ 40 then (some (x3 == (x102005.length : Int))) else (some false))
def spec_l9Calls.j2 : Nat → Int → Int → Int → Bool → List (S140) → List (S162) → List (S97) → Int → List (S73) → List Int → List Int → Int → Option (Bool)
 | 0, _, _, _, _, _, _, _, _, _, _, _, _ => none
 | k + 1, x3, x5, x6, x84, x102000, x102001, x102002, x102003, x102004, x102005, x102006, x102007 => if x84 = true then (some false) else (spec_l9Calls.l2 k x3 x5 x6 0 x102000 x102001 x102002 x102003 x102004 x102005 x102006 x102007)
def spec_l9Calls.l2 : Nat → Int → Int → Int → Int → List (S140) → List (S162) → List (S97) → Int → List (S73) → List Int → List Int → Int → Option (Bool)
 | 0, _, _, _, _, _, _, _, _, _, _, _, _ => none
 | k + 1, x3, x5, x6, x7, x102000, x102001, x102002, x102003, x102004, x102005, x102006, x102007 => if x7 < x5 then (if 0 ≤ x7 then (if x7 < (x102005.length : Int) then (if (rd x102005 x7) = x6 then (some false) else (spec_l9Calls.l2 k x3 x5 x6 (wrap64 (x7 + 1)) x102000 x102001 x102002 x102003 x102004 x102005 x102006 x102007)) else (none)) else (none)) else (spec_l9Calls.l1 k x3 (wrap64 (x5 + 1)) x102000 x102001 x102002 x102003 x102004 x102005 x102006 x102007)
end
def spec_l9Calls.f (k : Nat) (l0_0 : List (S140)) (l0_1 : List (S162)) (l0_2 : List (S97)) (a0_3 : Int) (l0_4 : List (S73)) (l0_5 : List Int) (l0_6 : List Int) (a0_7 : Int) : Option (Bool) := spec_l9Calls.l0 k 0 0 l0_0 l0_1 l0_2 a0_3 l0_4 l0_5 l0_6 a0_7
def spec_l9Calls.T5 : Bool × List (List Nat × List Nat) := (true, [([], []), ([], []), ([1], [1]), ([], []), ([2, 3], [2, 3]), ([4], [4]), ([0, 5], [0, 5]), ([6], [6])])
def spec_l9Calls.B5 : List Nat := [0, 0, 2, 0, 14, 30, 63, 127]
theorem spec_l9Calls.tab5 : rtab .any (opsOf Tryz.f94 5) = spec_l9Calls.T5 := by kernel_rfl
theorem spec_l9Calls.bits5 : waitsOk spec_l9Calls.T5.2 spec_l9Calls.B5 = true := by kernel_rfl
def spec_l9Calls.T12 : Bool × List (List Nat × List Nat) := (true, [([], []), ([], []), ([1], [1]), ([2], [2]), ([3], [3]), ([0, 4], [0, 4]), ([5], [5]), ([6, 5], [6]), ([7], [7]), ([8, 7], [7, 8]), ([7], [7]), ([9, 10, 7], [7, 9, 10]), ([11, 7], [7, 11]), ([12, 7], [7, 12]), ([13, 7], [7, 13]), ([7, 14], [7, 14]), ([15, 7], [15]), ([16], [16]), ([17, 16], [16, 17]), ([18, 16, 16], [16, 18]), ([19], [19]), ([20, 19], [19, 20]), ([19], [19]), ([22, 19], [19, 22]), ([19], [19]), ([24, 19], [19, 24]), ([23, 25, 19], [19, 23, 25]), ([26, 19], [19, 26]), ([21, 27, 19], [19, 21, 27]), ([28, 19], [19, 28]), ([29, 19], [19, 29]), ([19], [19]), ([31, 19], [19, 31]), ([19], [19]), ([32, 33, 19], [19, 32, 33]), ([34, 19], [19, 34]), ([35, 19], [19, 35]), ([30, 36, 19], [19, 30, 36]), ([19, 37, 16], [16, 19, 37]), ([16, 38], [16, 38])])
def spec_l9Calls.B12 : List Nat := [0, 0, 2, 6, 14, 31, 63, 127, 255, 511, 255, 2047, 4095, 8191, 16383, 32767, 65535, 131071, 262143, 524287, 1048575, 2097151, 1048575, 5242879, 1048575, 17825791, 63963135, 131071999, 268435455, 536870911, 1073741823, 1048575, 2148532223, 1048575, 15033434111, 32213303295, 66573041663, 137438953471, 274877906943, 549755813887]
theorem spec_l9Calls.tab12 : rtab .any (opsOf Tryz.f94 12) = spec_l9Calls.T12 := by kernel_rfl
theorem spec_l9Calls.bits12 : waitsOk spec_l9Calls.T12.2 spec_l9Calls.B12 = true := by kernel_rfl
theorem spec_l9Calls.calls (k : Nat) (A0_0 : Option Addr) (c0_0 : Nat) (l0_0 : List (S140)) (A0_1 : Option Addr) (c0_1 : Nat) (l0_1 : List (S162)) (A0_2 : Option Addr) (c0_2 : Nat) (l0_2 : List (S97)) (a0_3 : Int) (A0_4 : Option Addr) (c0_4 : Nat) (l0_4 : List (S73)) (A0_5 : Option Addr) (c0_5 : Nat) (l0_5 : List Int) (A0_6 : Option Addr) (c0_6 : Nat) (l0_6 : List Int) (a0_7 : Int) (r : Bool) (w : World) (hr0_0 : Kd.C k140 w A0_0 l0_0.length l0_0) (hc0_0 : l0_0.length ≤ c0_0) (hr0_1 : Kd.C k162 w A0_1 l0_1.length l0_1) (hc0_1 : l0_1.length ≤ c0_1) (hr0_2 : Kd.C k97 w A0_2 l0_2.length l0_2) (hc0_2 : l0_2.length ≤ c0_2) (hr0_4 : Kd.C k73 w A0_4 l0_4.length l0_4) (hc0_4 : l0_4.length ≤ c0_4) (hr0_5 : Kd.C (Kd.int .i64) w A0_5 l0_5.length l0_5) (hc0_5 : l0_5.length ≤ c0_5) (hr0_6 : Kd.C (Kd.int .i64) w A0_6 l0_6.length l0_6) (hc0_6 : l0_6.length ≤ c0_6) (h : spec_l9Calls.f k l0_0 l0_1 l0_2 a0_3 l0_4 l0_5 l0_6 a0_7 = some r) :
  Calls Tryz.prog 94 #[.agg #[.slice A0_0 l0_0.length c0_0, .slice A0_1 l0_1.length c0_1, .slice A0_2 l0_2.length c0_2, .int .i64 a0_3, .slice A0_4 l0_4.length c0_4, .slice A0_5 l0_5.length c0_5, .slice A0_6 l0_6.length c0_6, .int .i64 a0_7]] w fun e w' => e = .returned (.bool r) ∧ Below w.heap.size w w' := by
 have hu43 := Tryz.underlying43
 have hu73 := Tryz.underlying73
 have HR0_0 := aM hr0_0
 have HC0_0 := aM hc0_0
 clear hr0_0 hc0_0
 have HR0_1 := aM hr0_1
 have HC0_1 := aM hc0_1
 clear hr0_1 hc0_1
 have HR0_2 := aM hr0_2
 have HC0_2 := aM hc0_2
 clear hr0_2 hc0_2
 have HR0_4 := aM hr0_4
 have HC0_4 := aM hc0_4
 clear hr0_4 hc0_4
 have HR0_5 := aM hr0_5
 have HC0_5 := aM hc0_5
 clear hr0_5 hc0_5
 have HR0_6 := aM hr0_6
 have HC0_6 := aM hc0_6
 clear hr0_6 hc0_6
 have HB := aM (Below.refl w.heap.size w)
 have H := h
 unfold spec_l9Calls.f at H
 clear h
 have H' := aM H
 clear H
 go_enter Tryz.func94, Tryz.ntmps94
 go_wp2_with ((with_reducible refine gate_dst (N := 1) rfl ?_); (try (refine gate_guard (by rfl) ?_; dsimp only)); refine boxF 1 #[.slice A0_0 l0_0.length c0_0, .slice A0_1 l0_1.length c0_1, .slice A0_2 l0_2.length c0_2, .int .i64 a0_3, .slice A0_4 l0_4.length c0_4, .slice A0_5 l0_5.length c0_5, .slice A0_6 l0_6.length c0_6, .int .i64 a0_7] 43 ?_; intro gbz1 hg wz1 hbox hb; have BKz1 := aM (hbox); have GWz1 := aG hg HB; have GEz1 := aG hg HB; replace HB := aS HB hb; clear hb hbox hg)
 go_loopg [3, 4] k (fun kq v3 v4 w' => ∃ (x3_1 : Int) (x4_1 : Int), v3 = .int .i64 x3_1 ∧ v4 = .int .i64 x4_1 ∧ Aside0 (spec_l9Calls.l0 kq x3_1 x4_1 l0_0 l0_1 l0_2 a0_3 l0_4 l0_5 l0_6 a0_7 = some r) ∧ Aside0 (kq ≤ k) ∧ Aside0 (w'.heap[gbz1]? = some (.cells #[(.slice A0_0 l0_0.length c0_0), (.slice A0_1 l0_1.length c0_1), (.slice A0_2 l0_2.length c0_2), .int .i64 a0_3, (.slice A0_4 l0_4.length c0_4), (.slice A0_5 l0_5.length c0_5), (.slice A0_6 l0_6.length c0_6), .int .i64 a0_7] 43 (0, 0))) ∧ Aside0 (Below w.heap.size w w'))
 case atStart => exact ⟨(0), (0), rS, rS, H', ⟨Nat.le_refl _⟩, ⟨(bX BKz1.out)⟩, ⟨(hX HB.out)⟩⟩
 case round =>
  clear H'
  obtain ⟨x3_1, x4_1, rfl, rfl, HA, HKy1, BKz1, HB⟩ := hrel
  cases gk with
  | zero => exact absurd HA.out (by simp [spec_l9Calls.l0])
  | succ k1 =>
   have H := HA.out
   clear HA
   simp only [spec_l9Calls.l0] at H
   revert H; refine iP (fun c3b0 H => ?_) (fun c3b0 H => ?_)
   ·replace H := ifP H; obtain ⟨c4, H⟩ := H
    have c4b0 := decide_eq_true c4
    clear c4
    replace H := bE H; obtain ⟨t103, A5, H⟩ := H
    have hczx1 := cZ8 BKz1.out
    try go_wp2
    obtain ⟨adx1, Ax1, cx1, ex1, px1, qx1, hxx1, HCx1, HRx1⟩ := at_T73c HR0_4 HB x4_1
    cases ex1
    have hcb0_ := cV8 BKz1.out
    refine sR0 8 spec_l9Calls.tab5 spec_l9Calls.bits5 (fun HT_ HW_ hHeld => ?_)
    refine zA 1 ?_
    refine zA 3 ?_
    refine tA 0 ?_
    refine tA 2 ?_
    refine zA 4 ?_
    refine tA 5 ?_
    cases t103
    case false =>
     rw [if_neg nft] at H
     obtain rfl := sI H
     refine eB 6 Tryz.func161 (spec_l9Call.calls _ _ _ _ _ _ _ _ _ _ _ _ _ _ _ _ _ _ _ _ _ _ _ _ _ _ _ _ _ _ _ _ _ _ (cC HR0_0.out HB.out) HC0_0.out (cC HR0_1.out HB.out) HC0_1.out (cC HR0_2.out HB.out) HC0_2.out (cC HR0_4.out HB.out) HC0_4.out (cC HR0_5.out HB.out) HC0_5.out (cC HR0_6.out HB.out) HC0_6.out (cC HRx1.out HB.out) HCx1.out A5.out) (fun wx2 hb hHeld => ?_)
     replace BKz1 := aB BKz1 hb
     replace HB := aS HB hb
     (try clear hb)
     refine zA 7 ?_
     refine dA ?_
     try go_wp2
     go_ret
     exact ⟨rE, (hX HB.out)⟩
    rw [if_pos rfl] at H
    replace H := bE H; obtain ⟨t105, A7, H⟩ := H
    have H' := aM H
    clear H
    refine eB 6 Tryz.func161 (spec_l9Call.calls _ _ _ _ _ _ _ _ _ _ _ _ _ _ _ _ _ _ _ _ _ _ _ _ _ _ _ _ _ _ _ _ _ _ (cC HR0_0.out HB.out) HC0_0.out (cC HR0_1.out HB.out) HC0_1.out (cC HR0_2.out HB.out) HC0_2.out (cC HR0_4.out HB.out) HC0_4.out (cC HR0_5.out HB.out) HC0_5.out (cC HR0_6.out HB.out) HC0_6.out (cC HRx1.out HB.out) HCx1.out A5.out) (fun wx2 hb hHeld => ?_)
    replace BKz1 := aB BKz1 hb
    replace HB := aS HB hb
    (try clear hb)
    refine zA 7 ?_
    refine dA ?_
    have hczx9 := cZ8 BKz1.out
    obtain ⟨adx2, Ax2, cx2, ex2, px2, qx2, hxx10, HCx2, HRx2⟩ := at_T73c HR0_4 HB x4_1
    obtain rfl : adx1 = adx2 := (by injection ex2)
    try go_wp2_with (refine gD 162 31 Tryz.func162 (spec_l1Bit.calls _ _ _ A7.out) ?_; intro nd)
    go_roundg k1
    case measure => have := HKy1.out; omega
    case rel => exact ⟨(wrap64 (x3_1 + t105)), (wrap64 (x4_1 + 1)), rS, rS, H', ⟨by have := HKy1.out; omega⟩, ⟨(bX BKz1.out)⟩, ⟨(hX HB.out)⟩⟩
   have H' := aM H
   clear H
   have hczx1 := cZ8 BKz1.out
   go_wp2
   go_loopg [5] k1 (fun kq v5 w' => ∃ (x5_2 : Int), v5 = .int .i64 x5_2 ∧ Aside0 (spec_l9Calls.l1 kq x3_1 x5_2 l0_0 l0_1 l0_2 a0_3 l0_4 l0_5 l0_6 a0_7 = some r) ∧ Aside0 (kq ≤ k1) ∧ Aside0 (w'.heap[gbz1]? = some (.cells #[(.slice A0_0 l0_0.length c0_0), (.slice A0_1 l0_1.length c0_1), (.slice A0_2 l0_2.length c0_2), .int .i64 a0_3, (.slice A0_4 l0_4.length c0_4), (.slice A0_5 l0_5.length c0_5), (.slice A0_6 l0_6.length c0_6), .int .i64 a0_7] 43 (0, 0))) ∧ Aside0 (Below w.heap.size w w'))
   case atStart => exact ⟨(0), rS, H', ⟨Nat.le_refl _⟩, ⟨(bX BKz1.out)⟩, ⟨(hX HB.out)⟩⟩
   case round =>
    clear H'
    try clear c3b0
    try clear hczx1
    obtain ⟨x5_2, rfl, HA, HKw1, BKz1, HB⟩ := hrel
    cases gk with
    | zero => exact absurd HA.out (by simp [spec_l9Calls.l1])
    | succ k2 =>
     have H := HA.out
     clear HA
     simp only [spec_l9Calls.l1] at H
     revert H; refine iN (fun c16b0 H => ?_) (fun c16b0 H => ?_)
     ·by_cases c42 : (l0_4.length : Int) ≤ 40
      ·rw [if_pos c42] at H
       have c42b0 := decide_eq_true c42
       have c42b1 : decide (l0_4.length ≤ 40) = true := decide_eq_true (by omega)
       clear c42
       obtain rfl := sI H
       have hczv1 := cZ8 BKz1.out
       exact fS
      rw [if_neg c42] at H
      have c42b0 := decide_eq_false c42
      have c42b1 : decide (l0_4.length ≤ 40) = false := decide_eq_false (by omega)
      clear c42
      obtain rfl := sI H
      have hczv1 := cZ8 BKz1.out
      exact fS
     replace H := ifQ H; obtain ⟨c17b0, H⟩ := H
     have HC18 := aM H
     clear H
     have hczv1 := cZ8 BKz1.out
     obtain ⟨adv1, ev1, pv1, qv1, hxv1⟩ := at_ic HR0_5 HB x5_2
     cases ev1
     go_upto_region 12 with (fail)
     go_cut [84] (fun vv1 wc => ∃ (kq : Nat) (x84_17 : Bool), vv1 = .bool x84_17 ∧ Aside0 (spec_l9Calls.j2 kq x3_1 x5_2 (rd l0_5 x5_2) x84_17 l0_0 l0_1 l0_2 a0_3 l0_4 l0_5 l0_6 a0_7 = some r) ∧ Aside0 (kq ≤ k2) ∧ Aside0 (wc.heap[gbz1]? = some (.cells #[(.slice A0_0 l0_0.length c0_0), (.slice A0_1 l0_1.length c0_1), (.slice A0_2 l0_2.length c0_2), .int .i64 a0_3, (.slice A0_4 l0_4.length c0_4), (.slice (some adv1) l0_5.length c0_5), (.slice A0_6 l0_6.length c0_6), .int .i64 a0_7] 43 (0, 0))) ∧ Aside0 (Below w.heap.size w wc))
     case first =>
      have H := HC18.out
      clear HC18
      replace H := bE H; obtain ⟨t107, A20, H⟩ := H
      cases t107
      case false =>
       rw [if_neg nft] at H
       have H' := aM H
       clear H
       try go_wp2
       have hcb0_ := cV8 BKz1.out
       refine sR0 40 spec_l9Calls.tab12 spec_l9Calls.bits12 (fun HT_ HW_ hHeld => ?_)
       refine zA 0 ?_
       refine zA 1 ?_
       refine tA 2 ?_
       refine zA 3 ?_
       refine zA 4 ?_
       refine eD 5 Tryz.func43 (spec_l1In.calls _ _ _ _ _ A20.out) (fun nd hHeld => ?_)
       refine zA 6 ?_
       refine zA 7 ?_
       refine uA 8 ?_
       refine uA 9 ?_
       refine uA 10 ?_
       refine uA 11 ?_
       refine uA 12 ?_
       refine uA 13 ?_
       refine uA 14 ?_
       refine zA 15 ?_
       refine zA 16 ?_
       refine uA 17 ?_
       refine uA 18 ?_
       refine uA 19 ?_
       refine uA 20 ?_
       refine uA 21 ?_
       refine uA 22 ?_
       refine uA 23 ?_
       refine uA 24 ?_
       refine uA 25 ?_
       refine uA 26 ?_
       refine uA 27 ?_
       refine uA 28 ?_
       refine uA 29 ?_
       refine uA 30 ?_
       refine uA 31 ?_
       refine uA 32 ?_
       refine uA 33 ?_
       refine uA 34 ?_
       refine uA 35 ?_
       refine uA 36 ?_
       refine uA 37 ?_
       refine uA 38 ?_
       refine zA 39 ?_
       refine dA ?_
       try go_wp2
       go_meet
       case rel => exact ⟨_, (true), rS, H', ⟨by have := HKy1.out; have := HKw1.out; first | omega | exact Nat.le_refl _⟩, ⟨(bX BKz1.out)⟩, ⟨(hX HB.out)⟩⟩
      rw [if_pos rfl] at H
      replace H := ifQ H; obtain ⟨c22b0, H⟩ := H
      (first | rw [c22b0] | (simp only [i64_w, i32_w]; rw [c22b0]) | skip)
      replace H := ifQ H; obtain ⟨c23b0, H⟩ := H
      revert H; refine iP (fun c24b0 H => ?_) (fun c24b0 H => ?_)
      ·have H' := aM H
       clear H
       try go_wp2
       obtain ⟨adu1, Au1, cu1, eu1, pu1, qu1, hxu1, HCu1, HRu1⟩ := at_T73c HR0_4 HB (rd l0_5 x5_2)
       cases eu1
       have hcb0_ := cV8 BKz1.out
       refine sR0 40 spec_l9Calls.tab12 spec_l9Calls.bits12 (fun HT_ HW_ hHeld => ?_)
       refine zA 0 ?_
       refine zA 1 ?_
       refine tA 2 ?_
       refine zA 3 ?_
       refine zA 4 ?_
       refine eD 5 Tryz.func43 (spec_l1In.calls _ _ _ _ _ A20.out) (fun nd hHeld => ?_)
       refine zA 6 ?_
       refine zA 7 ?_
       refine zA 8 ?_
       refine zA 10 ?_
       refine tA 9 ?_
       refine zA 11 ?_
       refine zA 12 ?_
       refine tA 13 ?_
       refine zA 14 ?_
       refine zA 15 ?_
       refine zA 16 ?_
       refine uA 17 ?_
       refine uA 18 ?_
       refine uA 19 ?_
       refine uA 20 ?_
       refine uA 21 ?_
       refine uA 22 ?_
       refine uA 23 ?_
       refine uA 24 ?_
       refine uA 25 ?_
       refine uA 26 ?_
       refine uA 27 ?_
       refine uA 28 ?_
       refine uA 29 ?_
       refine uA 30 ?_
       refine uA 31 ?_
       refine uA 32 ?_
       refine uA 33 ?_
       refine uA 34 ?_
       refine uA 35 ?_
       refine uA 36 ?_
       refine uA 37 ?_
       refine uA 38 ?_
       refine zA 39 ?_
       refine dA ?_
       try go_wp2
       go_meet
       case rel => exact ⟨_, (true), rS, H', ⟨by have := HKy1.out; have := HKw1.out; first | omega | exact Nat.le_refl _⟩, ⟨(bX BKz1.out)⟩, ⟨(hX HB.out)⟩⟩
      revert H; refine iN (fun c26b0 H => ?_) (fun c26b0 H => ?_)
      ·have H' := aM H
       clear H
       try go_wp2
       obtain ⟨adu1, Au1, cu1, eu1, pu1, qu1, hxu1, HCu1, HRu1⟩ := at_T73c HR0_4 HB (rd l0_5 x5_2)
       cases eu1
       have hcb0_ := cV8 BKz1.out
       refine sR0 40 spec_l9Calls.tab12 spec_l9Calls.bits12 (fun HT_ HW_ hHeld => ?_)
       refine zA 0 ?_
       refine zA 1 ?_
       refine tA 2 ?_
       refine zA 3 ?_
       refine zA 4 ?_
       refine eD 5 Tryz.func43 (spec_l1In.calls _ _ _ _ _ A20.out) (fun nd hHeld => ?_)
       refine zA 6 ?_
       refine zA 7 ?_
       refine zA 8 ?_
       refine zA 10 ?_
       refine tA 9 ?_
       refine zA 11 ?_
       refine zA 12 ?_
       refine tA 13 ?_
       refine zA 14 ?_
       refine zA 15 ?_
       refine zA 16 ?_
       refine zA 17 ?_
       refine zA 18 ?_
       refine zA 19 ?_
       refine uA 20 ?_
       refine uA 21 ?_
       refine uA 22 ?_
       refine uA 23 ?_
       refine uA 24 ?_
       refine uA 25 ?_
       refine uA 26 ?_
       refine uA 27 ?_
       refine uA 28 ?_
       refine uA 29 ?_
       refine uA 30 ?_
       refine uA 31 ?_
       refine uA 32 ?_
       refine uA 33 ?_
       refine uA 34 ?_
       refine uA 35 ?_
       refine uA 36 ?_
       refine uA 37 ?_
       refine zA 38 ?_
       refine zA 39 ?_
       refine dA ?_
       try go_wp2
       go_meet
       case rel => exact ⟨_, (false), rS, H', ⟨by have := HKy1.out; have := HKw1.out; first | omega | exact Nat.le_refl _⟩, ⟨(bX BKz1.out)⟩, ⟨(hX HB.out)⟩⟩
      obtain ⟨ji27, hji27⟩ : ∃ j_ : Int, (wrap64 (x5_2 - 1)) = j_ := ⟨_, rfl⟩
      replace H : (if 0 ≤ (ji27) then (if (ji27) < (l0_5.length : Int) then (if 0 ≤ (rd l0_5 (ji27)) then (if (rd l0_5 (ji27)) < (l0_4.length : Int) then (spec_l9Calls.j2 k2 x3_1 x5_2 (rd l0_5 x5_2) (decide (((rd_T73 l0_4 (rd l0_5 (ji27))).f3) > ((rd_T73 l0_4 (rd l0_5 x5_2)).f3))) l0_0 l0_1 l0_2 a0_3 l0_4 l0_5 l0_6 a0_7) else (none)) else (none)) else (none)) else (none)) = some r := by first | (rw [hji27] at H; exact H) | (simp only [hji27] at H ⊢; exact H)
      (try rw [hji27] at A20)
      have hji27w : (IntKind.i64.wrap (x5_2 - 1)) = ji27 := (i64_w _).trans hji27
      replace H := ifQ H; obtain ⟨c28b0, H⟩ := H
      replace H := ifQ H; obtain ⟨c29b0, H⟩ := H
      replace H := ifQ H; obtain ⟨c30b0, H⟩ := H
      replace H := ifQ H; obtain ⟨c31b0, H⟩ := H
      have H' := aM H
      clear H
      try go_wp2
      obtain ⟨adu1, Au1, cu1, eu1, pu1, qu1, ⟨hxu1, hxu2, hxu3, hxu4, hxu5, hxu6, hxu7, hxu8, hxu9⟩, HCu1, HRu1⟩ := at_T73c HR0_4 HB (rd l0_5 x5_2)
      cases eu1
      obtain ⟨adu2, eu2, pu2, qu2, hxu10⟩ := at_ic HR0_5 HB (ji27)
      obtain rfl : adv1 = adu2 := (by injection eu2)
      obtain ⟨adu3, Au2, cu2, eu3, pu3, qu3, hxu11, HCu2, HRu2⟩ := at_T73c HR0_4 HB (rd l0_5 (ji27))
      obtain rfl : adu1 = adu3 := (by injection eu3)
      obtain ⟨adu4, Au3, cu3, eu4, pu4, qu4, ⟨hxu20, hxu21, hxu22, hxu23, hxu24, hxu25, hxu26, hxu27, hxu28⟩, HCu3, HRu3⟩ := at_T73c HR0_4 HB (rd l0_5 x5_2)
      obtain rfl : adu1 = adu4 := (by injection eu4)
      have ea_ := Option.some.inj (hxu9.symm.trans hxu28)
      injection ea_ with ea_ en_ ec_
      subst ea_
      subst ec_
      clear en_
      have hcb0_ := cV8 BKz1.out
      refine sR0 40 spec_l9Calls.tab12 spec_l9Calls.bits12 (fun HT_ HW_ hHeld => ?_)
      refine zA 0 ?_
      refine zA 1 ?_
      refine tA 2 ?_
      refine zA 3 ?_
      refine zA 4 ?_
      refine eD 5 Tryz.func43 (spec_l1In.calls _ _ _ _ _ A20.out) (fun nd hHeld => ?_)
      refine zA 6 ?_
      refine zA 7 ?_
      refine zA 8 ?_
      refine zA 10 ?_
      refine tA 9 ?_
      refine zA 11 ?_
      refine zA 12 ?_
      refine tA 13 ?_
      refine zA 14 ?_
      refine zA 15 ?_
      refine zA 16 ?_
      refine zA 17 ?_
      refine zA 18 ?_
      refine zA 19 ?_
      refine zA 20 ?_
      refine zA 22 ?_
      refine zA 24 ?_
      refine zA 25 ?_
      refine zA 31 ?_
      refine zA 33 ?_
      refine tA 21 ?_
      refine tA 23 ?_
      refine zA 26 ?_
      refine tA 27 ?_
      refine zA 28 ?_
      refine zA 29 ?_
      refine tA 30 ?_
      refine tA 32 ?_
      refine zA 34 ?_
      refine zA 35 ?_
      refine tA 36 ?_
      refine zA 37 ?_
      refine zA 38 ?_
      refine zA 39 ?_
      refine dA ?_
      try go_wp2
      go_meet
      case rel => exact ⟨_, (decide (((rd_T73 l0_4 (rd l0_5 (ji27))).f3) > ((rd_T73 l0_4 (rd l0_5 x5_2)).f3))), (by first | rfl | (simp; done) | (simp only [← hji27] <;> (first | rfl | simp)) | (simp [*]; done)), H', ⟨by have := HKy1.out; have := HKw1.out; first | omega | exact Nat.le_refl _⟩, ⟨(bX BKz1.out)⟩, ⟨(hX HB.out)⟩⟩
     case rest =>
      clear HC18
      obtain ⟨kq, x84_17, rfl, HA, HJu1, BKz1, HB⟩ := hcut
      cases kq with
      | zero => exact absurd HA.out (by simp [spec_l9Calls.j2])
      | succ kj17 =>
       have H := HA.out
       clear HA
       simp only [spec_l9Calls.j2] at H
       cases x84_17
       case true =>
        rw [if_pos rfl] at H
        exact fR
       rw [if_neg nft] at H
       have H' := aM H
       clear H
       go_wp2
       go_loopg [7] kj17 (fun kq v7 w' => ∃ (x7_4 : Int), v7 = .int .i64 x7_4 ∧ Aside0 (spec_l9Calls.l2 kq x3_1 x5_2 (rd l0_5 x5_2) x7_4 l0_0 l0_1 l0_2 a0_3 l0_4 l0_5 l0_6 a0_7 = some r) ∧ Aside0 (kq ≤ kj17) ∧ Aside0 (w'.heap[gbz1]? = some (.cells #[(.slice A0_0 l0_0.length c0_0), (.slice A0_1 l0_1.length c0_1), (.slice A0_2 l0_2.length c0_2), .int .i64 a0_3, (.slice A0_4 l0_4.length c0_4), (.slice (some adv1) l0_5.length c0_5), (.slice A0_6 l0_6.length c0_6), .int .i64 a0_7] 43 (0, 0))) ∧ Aside0 (Below w.heap.size w w'))
       case atStart => exact ⟨(0), rS, H', ⟨Nat.le_refl _⟩, ⟨(bX BKz1.out)⟩, ⟨(hX HB.out)⟩⟩
       case round =>
        clear H'
        obtain ⟨x7_4, rfl, HA, HKs1, BKz1, HB⟩ := hrel
        cases gk with
        | zero => exact absurd HA.out (by simp [spec_l9Calls.l2])
        | succ k4 =>
         have H := HA.out
         clear HA
         simp only [spec_l9Calls.l2] at H
         revert H; refine iN (fun c36b0 H => ?_) (fun c36b0 H => ?_)
         ·have H' := aM H
          clear H
          go_wp2
          go_roundg k4
          case measure => have := HKy1.out; have := HKw1.out; have := HJu1.out; have := HKs1.out; omega
          case rel => exact ⟨(wrap64 (x5_2 + 1)), rS, H', ⟨by have := HKy1.out; have := HKw1.out; have := HJu1.out; have := HKs1.out; omega⟩, ⟨(bX BKz1.out)⟩, ⟨(hX HB.out)⟩⟩
         replace H := ifQ H; obtain ⟨c37b0, H⟩ := H
         replace H := ifQ H; obtain ⟨c38b0, H⟩ := H
         revert H; refine eP (fun c39b0 c39b1 H => ?_) (fun c39b0 c39b1 H => ?_)
         ·obtain rfl := sI H
          have hczr1 := cZ8 BKz1.out
          obtain ⟨adr1, er1, pr1, qr1, hxr1⟩ := at_ic HR0_5 HB x7_4
          obtain rfl : adv1 = adr1 := (by injection er1)
          exact fS
         have H' := aM H
         clear H
         have hczr1 := cZ8 BKz1.out
         obtain ⟨adr1, er1, pr1, qr1, hxr1⟩ := at_ic HR0_5 HB x7_4
         obtain rfl : adv1 = adr1 := (by injection er1)
         go_wp2
         go_roundg k4
         case measure => have := HKy1.out; have := HKw1.out; have := HJu1.out; have := HKs1.out; omega
         case rel => exact ⟨(wrap64 (x7_4 + 1)), rS, H', ⟨by have := HKy1.out; have := HKw1.out; have := HJu1.out; have := HKs1.out; omega⟩, ⟨(bX BKz1.out)⟩, ⟨(hX HB.out)⟩⟩
end Go.Proofs.YtmljebgideecjaaGreat.P2
