/- A part of the proof of the law FnExactJudgeSo: texts of this seat, merged (words, printed functions of the program, plain lemmas). Conditions: none of its own. -/
import Derived.Test.YtmljebgideecjaaGreatP2kFnExactJudgeSo1
import Derived.Test.YtmljebgideecjaaGreatP2kFnExactJudgeSo4
import Derived.Test.YtmljebgideecjaaGreatP2kFnExactJudgeSo5
import Derived.Test.YtmljebgideecjaaGreatP2kFnExactJudgeSo6
import Derived.Test.YtmljebgideecjaaGreatP2kFnExactJudgeSo15
import Derived.Test.YtmljebgideecjaaGreatP2kFnExactJudgeSo19
import Derived.Test.YtmljebgideecjaaGreatP2kFnExactJudgeSo21
set_option linter.unusedSimpArgs false
set_option linter.unusedVariables false
set_option maxHeartbeats 8000000
set_option maxRecDepth 100000
namespace Go.Proofs.YtmljebgideecjaaGreat.P2
open Go.Proofs.YtmljebgideecjaaGreatZ Go.RowKit Go.Proofs.YtmljebgideecjaaGreatW.PrintWords Go.Proofs.YtmljebgideecjaaGreatW.PrintLast Go.Proofs.YtmljebgideecjaaGreatW.PrintMore
attribute [local go_sem] max2_int min2_int max_two min_two max_three min_three max_four min_four   -- for this text's walks alone
def impl_Op_178_179.f (k : Nat) (l0 : List (S69))  : Option (Bool) := (impl_Op_210_179.f k l0).bind fun t101 => (some (decide (t101 ≥ 0)))
theorem impl_Op_178_179.calls (k : Nat) (A0 : Option Addr) (c0 : Nat) (l0 : List (S69))  (r : Bool) (w : World) (hr0 : Kd.C k69 w A0 l0.length l0) (hc0 : l0.length ≤ c0) (h : impl_Op_178_179.f k l0 = some r) :
  Calls Tryz.prog 178 #[.slice A0 l0.length c0, .func (.func 179) #[] #[]] w fun e w' => e = .returned (.bool r) ∧ Below w.heap.size w w' := by
 have HR0 := aM hr0
 have HC0 := aM hc0
 clear hr0 hc0
 have HB := aM (Below.refl w.heap.size w)
 have H := h
 unfold impl_Op_178_179.f at H
 clear h
 replace H := bE H; obtain ⟨t101, A3, H⟩ := H
 obtain rfl := sI H
 go_enter Tryz.func178, Tryz.ntmps178
 go_wp2_with (refine gB 210 7 Tryz.func210 (impl_Op_210_179.calls _ _ _ _ _ _ (cX HR0.out) HC0.out A3.out) ?_; intro wz1 hb; replace HB := aS HB hb; clear hb)
 go_ret
 exact ⟨rE, (hX HB.out)⟩
def impl_ThreadOk_2.f (a0_0 : Int) (a0_1 : Int) : Option (Bool) := (impl_isPlace.f a0_0).bind fun t102 => (if t102 = true then ((impl_isWordNum.f a0_1).bind fun t103 => (some (!t103))) else (some true))
theorem impl_ThreadOk_2.calls (a0_0 : Int) (a0_1 : Int) (r : Bool) (w : World) (h : impl_ThreadOk_2.f a0_0 a0_1 = some r) :
  Calls Tryz.prog 181 #[.agg #[.int .i64 a0_0, .int .i64 a0_1]] w fun e w' => e = .returned (.bool r) ∧ Below w.heap.size w w' := by
 have hu172 := Tryz.underlying172
 have HB := aM (Below.refl w.heap.size w)
 have H := h
 unfold impl_ThreadOk_2.f at H
 clear h
 replace H := bE H; obtain ⟨t102, A2, H⟩ := H
 go_enter Tryz.func181, Tryz.ntmps181
 go_wp2_with (refine boxE 1 #[.int .i64 a0_0, .int .i64 a0_1] 172 ?_; intro gbz1 hg wz1 hbox hb; have BKz1 := aM (hbox); have GWz1 := aG hg HB; have GEz1 := aG hg HB; replace HB := aS HB hb; clear hb hbox hg; have hczz1 := cZ2 BKz1.out; refine Stop.out ?_)
 refine ⟨?_⟩
 cases t102
 case false =>
  rw [if_neg nft] at H
  obtain rfl := sI H
  go_wp2_with (refine gD 182 5 Tryz.func182 (impl_isPlace.calls _ _ _ A2.out) ?_; intro nd)
  go_ret
  exact ⟨rE, (hX HB.out)⟩
 rw [if_pos rfl] at H
 replace H := bE H; obtain ⟨t103, A4, H⟩ := H
 obtain rfl := sI H
 go_wp2_with (first | (refine gD 182 5 Tryz.func182 (impl_isPlace.calls _ _ _ A2.out) ?_; intro nd) | (go_at_call 183; (with_reducible refine (impl_isWordNum.calls _ _ _ A4.out).mono ?_); rintro e w' ⟨rfl, ⟨nd, rfl⟩⟩))
 go_ret
 exact ⟨rE, (hX HB.out)⟩
def impl_Pair_211_181.l0 : Nat → List (S172) → Int → Int → Option (Int)
 | 0, _, _, _ => none
 | k + 1, x0, x7, x8 => if x8 < x7 then (if 0 ≤ x8 then (if x8 < (x0.length : Int) then ((impl_ThreadOk_2.f ((rd_T172 x0 x8).f0) ((rd_T172 x0 x8).f1)).bind fun t102 => (if t102 = true then (some x8) else (impl_Pair_211_181.l0 k x0 x7 (wrap64 (x8 + 1))))) else (none)) else (none)) else (some (-1))
def impl_Pair_211_181.f (k : Nat) (l0 : List (S172))  : Option (Int) := impl_Pair_211_181.l0 k l0 (l0.length : Int) 0
theorem impl_Pair_211_181.calls (k : Nat) (A0 : Option Addr) (c0 : Nat) (l0 : List (S172))  (r : Int) (w : World) (hr0 : Kd.C k172 w A0 l0.length l0) (hc0 : l0.length ≤ c0) (h : impl_Pair_211_181.f k l0 = some r) :
  Calls Tryz.prog 211 #[.slice A0 l0.length c0, .func (.func 181) #[] #[]] w fun e w' => e = .returned (.int .i64 r) ∧ Below w.heap.size w w' := by
 have hu172 := Tryz.underlying172
 have HR0 := aM hr0
 have HC0 := aM hc0
 clear hr0 hc0
 have HB := aM (Below.refl w.heap.size w)
 have H := h
 unfold impl_Pair_211_181.f at H
 clear h
 have H' := aM H
 clear H
 go_enter Tryz.func211, Tryz.ntmps211
 go_wp2
 go_loopg [8] k (fun kq v8 w' => ∃ (x8_1 : Int), v8 = .int .i64 x8_1 ∧ Aside0 (impl_Pair_211_181.l0 kq l0 (l0.length : Int) x8_1 = some r) ∧ Aside0 (kq ≤ k) ∧ Aside0 (Below w.heap.size w w'))
 case atStart => exact ⟨(0), rS, H', ⟨Nat.le_refl _⟩, ⟨(hX HB.out)⟩⟩
 case round =>
  clear H'
  obtain ⟨x8_1, rfl, HA, HKy1, HB⟩ := hrel
  cases gk with
  | zero => exact absurd HA.out (by simp [impl_Pair_211_181.l0])
  | succ k1 =>
   have H := HA.out
   clear HA
   simp only [impl_Pair_211_181.l0] at H
   revert H; refine iN (fun c3b0 H => ?_) (fun c3b0 H => ?_)
   ·obtain rfl := sI H
    exact fS
   replace H := ifQ H; obtain ⟨c4b0, H⟩ := H
   replace H := ifQ H; obtain ⟨c5b0, H⟩ := H
   replace H := bE H; obtain ⟨t102, A6, H⟩ := H
   cases t102
   case true =>
    rw [if_pos rfl] at H
    obtain rfl := sI H
    obtain ⟨adx1, ex1, px1, qx1, hxx1⟩ := at_T172c HR0 HB x8_1
    cases ex1
    go_wp2_with ((with_reducible refine Go.Proofs.YtmljebgideecjaaGreatZ.gate_calleeT (t := 11) rfl ?_); refine Go.Proofs.YtmljebgideecjaaGreatZ.goesT_ (some 16) 11 rfl rfl Tryz.func181 (by kernel_rfl) rfl #[.agg #[.int .i64 ((rd_T172 l0 x8_1).f0), .int .i64 ((rd_T172 l0 x8_1).f1)]] rfl rfl (by (try simp only [List.map_toArray, List.map_cons, List.map_nil]); first | done | rfl | (simp only [List.length_drop, List.length_take]; rfl)) ?_; (with_reducible refine (impl_ThreadOk_2.calls _ _ _ _ A6.out).mono ?_); rintro e wx1 ⟨rfl, hb⟩; refine ⟨_, rfl, ?_⟩; replace HB := aS HB hb; clear hb)
    go_ret
    exact ⟨rE, (hX HB.out)⟩
   rw [if_neg nft] at H
   have H' := aM H
   clear H
   obtain ⟨adx1, ex1, px1, qx1, hxx1⟩ := at_T172c HR0 HB x8_1
   cases ex1
   go_wp2_with ((with_reducible refine Go.Proofs.YtmljebgideecjaaGreatZ.gate_calleeT (t := 11) rfl ?_); refine Go.Proofs.YtmljebgideecjaaGreatZ.goesT_ (some 16) 11 rfl rfl Tryz.func181 (by kernel_rfl) rfl #[.agg #[.int .i64 ((rd_T172 l0 x8_1).f0), .int .i64 ((rd_T172 l0 x8_1).f1)]] rfl rfl (by (try simp only [List.map_toArray, List.map_cons, List.map_nil]); first | done | rfl | (simp only [List.length_drop, List.length_take]; rfl)) ?_; (with_reducible refine (impl_ThreadOk_2.calls _ _ _ _ A6.out).mono ?_); rintro e wx1 ⟨rfl, hb⟩; refine ⟨_, rfl, ?_⟩; replace HB := aS HB hb; clear hb)
   go_roundg k1
   case measure => have := HKy1.out; omega
   case rel => exact ⟨(wrap64 (x8_1 + 1)), rS, H', ⟨by have := HKy1.out; omega⟩, ⟨(hX HB.out)⟩⟩
def impl_Pair_180_181.f (k : Nat) (l0 : List (S172))  : Option (Bool) := (impl_Pair_211_181.f k l0).bind fun t101 => (some (decide (t101 ≥ 0)))
theorem impl_Pair_180_181.calls (k : Nat) (A0 : Option Addr) (c0 : Nat) (l0 : List (S172))  (r : Bool) (w : World) (hr0 : Kd.C k172 w A0 l0.length l0) (hc0 : l0.length ≤ c0) (h : impl_Pair_180_181.f k l0 = some r) :
  Calls Tryz.prog 180 #[.slice A0 l0.length c0, .func (.func 181) #[] #[]] w fun e w' => e = .returned (.bool r) ∧ Below w.heap.size w w' := by
 have HR0 := aM hr0
 have HC0 := aM hc0
 clear hr0 hc0
 have HB := aM (Below.refl w.heap.size w)
 have H := h
 unfold impl_Pair_180_181.f at H
 clear h
 replace H := bE H; obtain ⟨t101, A3, H⟩ := H
 obtain rfl := sI H
 go_enter Tryz.func180, Tryz.ntmps180
 go_wp2_with (refine gB 211 7 Tryz.func211 (impl_Pair_211_181.calls _ _ _ _ _ _ (cX HR0.out) HC0.out A3.out) ?_; intro wz1 hb; replace HB := aS HB hb; clear hb)
 go_ret
 exact ⟨rE, (hX HB.out)⟩
def impl_ThreadOk_3.f (a0_0 : Int) (a0_1 : Int) (a0_2 : Int) (a0_3 : Int) (a1 : Int) : Option (Bool) := (impl_from.f a0_0 0 (wrap64 (a1 - 1))).bind fun t102 => (if t102 = true then ((impl_from.f a0_1 1 1000000).bind fun t103 => (if t103 = true then ((impl_from.f a0_2 0 20).bind fun t104 => (if t104 = true then ((impl_from.f a0_3 0 20).bind fun t105 => (some (!t105))) else (some true))) else (some true))) else (some true))
theorem impl_ThreadOk_3.calls (a0_0 : Int) (a0_1 : Int) (a0_2 : Int) (a0_3 : Int) (gc1 : Nat) (a1 : Int) (r : Bool) (w : World) (hbc1 : w.heap[gc1]? = some (.cells #[.int .i64 a1] 3 (0, 0))) (h : impl_ThreadOk_3.f a0_0 a0_1 a0_2 a0_3 a1 = some r) :
  Calls Tryz.prog 185 #[.agg #[.int .i64 a0_0, .int .i64 a0_1, .int .i64 a0_2, .int .i64 a0_3], .pointer (some ⟨gc1, 0, none⟩)] w fun e w' => e = .returned (.bool r) ∧ Below w.heap.size w w' := by
 have hu174 := Tryz.underlying174
 have BKz1 := aM hbc1
 clear hbc1
 have HB := aM (Below.refl w.heap.size w)
 have H := h
 unfold impl_ThreadOk_3.f at H
 clear h
 replace H := bE H; obtain ⟨tz1, Az1, H⟩ := H
 cases tz1
 case false =>
  rw [if_neg nft] at H
  obtain rfl := sI H
  go_enter Tryz.func185, Tryz.ntmps185
  go_wp2_with (first | (refine boxE 2 #[.int .i64 a0_0, .int .i64 a0_1, .int .i64 a0_2, .int .i64 a0_3] 174 ?_; intro gbz1 hg wz4 hbox hb; have BKz2 := aM (hbox); have GWz1 := aG hg HB; have GEz1 := aG hg HB; have NBz1 := aL hg BKz1; have NBz2 := aR hg BKz1; replace BKz1 := aB BKz1 hb; replace HB := aS HB hb; clear hb hbox hg; have hnbz4 := NBz2.out; have hncz4 := NBz1.out; have hczz16 := cZ4 BKz2.out; have hczz20 := cZ1 BKz1.out) | (refine gD 102 8 Tryz.func102 (impl_from.calls a0_0 0 (wrap64 (a1 - 1)) false _ Az1.out) ?_; intro nd))
  go_ret
  exact ⟨rE, (hX HB.out)⟩
 rw [if_pos rfl] at H
 replace H := bE H; obtain ⟨tz2, Az2, H⟩ := H
 cases tz2
 case false =>
  rw [if_neg nft] at H
  obtain rfl := sI H
  go_enter Tryz.func185, Tryz.ntmps185
  go_wp2_with (first | (refine boxE 2 #[.int .i64 a0_0, .int .i64 a0_1, .int .i64 a0_2, .int .i64 a0_3] 174 ?_; intro gbz1 hg wz3 hbox hb; have BKz2 := aM (hbox); have GWz1 := aG hg HB; have GEz1 := aG hg HB; have NBz1 := aL hg BKz1; have NBz2 := aR hg BKz1; replace BKz1 := aB BKz1 hb; replace HB := aS HB hb; clear hb hbox hg; have hnbz3 := NBz2.out; have hncz3 := NBz1.out; have hczz11 := cZ4 BKz2.out; have hczz15 := cZ1 BKz1.out) | (refine gD 102 8 Tryz.func102 (impl_from.calls a0_0 0 (wrap64 (a1 - 1)) true _ Az1.out) ?_; intro nd) | (go_at_call 102; (with_reducible refine (impl_from.calls a0_1 1 1000000 false _ Az2.out).mono ?_); rintro e w' ⟨rfl, ⟨nd, rfl⟩⟩))
  go_ret
  exact ⟨rE, (hX HB.out)⟩
 rw [if_pos rfl] at H
 replace H := bE H; obtain ⟨tz3, Az3, H⟩ := H
 cases tz3
 case false =>
  rw [if_neg nft] at H
  obtain rfl := sI H
  go_enter Tryz.func185, Tryz.ntmps185
  go_wp2_with (first | (refine boxE 2 #[.int .i64 a0_0, .int .i64 a0_1, .int .i64 a0_2, .int .i64 a0_3] 174 ?_; intro gbz1 hg wz2 hbox hb; have BKz2 := aM (hbox); have GWz1 := aG hg HB; have GEz1 := aG hg HB; have NBz1 := aL hg BKz1; have NBz2 := aR hg BKz1; replace BKz1 := aB BKz1 hb; replace HB := aS HB hb; clear hb hbox hg; have hnbz2 := NBz2.out; have hncz2 := NBz1.out; have hczz6 := cZ4 BKz2.out; have hczz10 := cZ1 BKz1.out) | (refine gD 102 8 Tryz.func102 (impl_from.calls a0_0 0 (wrap64 (a1 - 1)) true _ Az1.out) ?_; intro nd) | (go_at_call 102; (with_reducible refine (impl_from.calls a0_1 1 1000000 true _ Az2.out).mono ?_); rintro e w' ⟨rfl, ⟨nd, rfl⟩⟩) | (go_at_call 102; (with_reducible refine (impl_from.calls a0_2 0 20 false _ Az3.out).mono ?_); rintro e w' ⟨rfl, ⟨nd, rfl⟩⟩))
  go_ret
  exact ⟨rE, (hX HB.out)⟩
 rw [if_pos rfl] at H
 replace H := bE H; obtain ⟨tz4, Az4, H⟩ := H
 obtain rfl := sI H
 go_enter Tryz.func185, Tryz.ntmps185
 go_wp2_with (first | (refine boxE 2 #[.int .i64 a0_0, .int .i64 a0_1, .int .i64 a0_2, .int .i64 a0_3] 174 ?_; intro gbz1 hg wz1 hbox hb; have BKz2 := aM (hbox); have GWz1 := aG hg HB; have GEz1 := aG hg HB; have NBz1 := aL hg BKz1; have NBz2 := aR hg BKz1; replace BKz1 := aB BKz1 hb; replace HB := aS HB hb; clear hb hbox hg; have hnbz1 := NBz2.out; have hncz1 := NBz1.out; have hczz1 := cZ4 BKz2.out; have hczz5 := cZ1 BKz1.out) | (refine gD 102 8 Tryz.func102 (impl_from.calls a0_0 0 (wrap64 (a1 - 1)) true _ Az1.out) ?_; intro nd) | (go_at_call 102; (with_reducible refine (impl_from.calls a0_1 1 1000000 true _ Az2.out).mono ?_); rintro e w' ⟨rfl, ⟨nd, rfl⟩⟩) | (go_at_call 102; (with_reducible refine (impl_from.calls a0_2 0 20 true _ Az3.out).mono ?_); rintro e w' ⟨rfl, ⟨nd, rfl⟩⟩) | (go_at_call 102; (with_reducible refine (impl_from.calls a0_3 0 20 tz4 _ Az4.out).mono ?_); rintro e w' ⟨rfl, ⟨nd, rfl⟩⟩))
 go_ret
 exact ⟨rE, (hX HB.out)⟩
def impl_Help_212_185.l0 : Nat → List (S174) → Int → Int → Int → Option (Int)
 | 0, _, _, _, _ => none
 | k + 1, x0, x7, x8, x9002000 => if x8 < x7 then (if 0 ≤ x8 then (if x8 < (x0.length : Int) then ((impl_ThreadOk_3.f ((rd_T174 x0 x8).f0) ((rd_T174 x0 x8).f1) ((rd_T174 x0 x8).f2) ((rd_T174 x0 x8).f3) x9002000).bind fun t102 => (if t102 = true then (some x8) else (impl_Help_212_185.l0 k x0 x7 (wrap64 (x8 + 1)) x9002000))) else (none)) else (none)) else (some (-1))
def impl_Help_212_185.f (k : Nat) (l0 : List (S174)) (a1 : Int) : Option (Int) := impl_Help_212_185.l0 k l0 (l0.length : Int) 0 a1
theorem impl_Help_212_185.calls (k : Nat) (A0 : Option Addr) (c0 : Nat) (l0 : List (S174)) (gc1 : Nat) (a1 : Int) (r : Int) (w : World) (hr0 : Kd.C k174 w A0 l0.length l0) (hc0 : l0.length ≤ c0) (hbc1 : w.heap[gc1]? = some (.cells #[.int .i64 a1] 3 (0, 0))) (h : impl_Help_212_185.f k l0 a1 = some r) :
  Calls Tryz.prog 212 #[.slice A0 l0.length c0, .func (.func 185) #[] #[.pointer (some ⟨gc1, 0, none⟩)]] w fun e w' => e = .returned (.int .i64 r) ∧ Below w.heap.size w w' := by
 have hu174 := Tryz.underlying174
 have HR0 := aM hr0
 have HC0 := aM hc0
 clear hr0 hc0
 have BKz1 := aM hbc1
 clear hbc1
 have HB := aM (Below.refl w.heap.size w)
 have H := h
 unfold impl_Help_212_185.f at H
 clear h
 have H' := aM H
 clear H
 go_enter Tryz.func212, Tryz.ntmps212
 go_wp2
 go_loopg [8] k (fun kq v8 w' => ∃ (x8_1 : Int), v8 = .int .i64 x8_1 ∧ Aside0 (impl_Help_212_185.l0 kq l0 (l0.length : Int) x8_1 a1 = some r) ∧ Aside0 (kq ≤ k) ∧ Aside0 (w'.heap[gc1]? = some (.cells #[.int .i64 a1] 3 (0, 0))) ∧ Aside0 (Below w.heap.size w w'))
 case atStart => exact ⟨(0), rS, H', ⟨Nat.le_refl _⟩, ⟨(bX BKz1.out)⟩, ⟨(hX HB.out)⟩⟩
 case round =>
  clear H'
  obtain ⟨x8_1, rfl, HA, HKy1, BKz1, HB⟩ := hrel
  cases gk with
  | zero => exact absurd HA.out (by simp [impl_Help_212_185.l0])
  | succ k1 =>
   have H := HA.out
   clear HA
   simp only [impl_Help_212_185.l0] at H
   revert H; refine iN (fun c3b0 H => ?_) (fun c3b0 H => ?_)
   ·obtain rfl := sI H
    exact fS
   replace H := ifQ H; obtain ⟨c4b0, H⟩ := H
   replace H := ifQ H; obtain ⟨c5b0, H⟩ := H
   replace H := bE H; obtain ⟨t102, A6, H⟩ := H
   cases t102
   case true =>
    rw [if_pos rfl] at H
    obtain rfl := sI H
    obtain ⟨adx1, ex1, px1, qx1, hxx1⟩ := at_T174c HR0 HB x8_1
    cases ex1
    go_wp2_with ((with_reducible refine Go.Proofs.YtmljebgideecjaaGreatZ.gate_calleeT (t := 11) rfl ?_); refine Go.Proofs.YtmljebgideecjaaGreatZ.goesTC_ (some 16) 11 rfl rfl Tryz.func185 (by kernel_rfl) rfl #[.agg #[.int .i64 ((rd_T174 l0 x8_1).f0), .int .i64 ((rd_T174 l0 x8_1).f1), .int .i64 ((rd_T174 l0 x8_1).f2), .int .i64 ((rd_T174 l0 x8_1).f3)]] #[.pointer (some ⟨gc1, 0, none⟩)] #[.agg #[.int .i64 ((rd_T174 l0 x8_1).f0), .int .i64 ((rd_T174 l0 x8_1).f1), .int .i64 ((rd_T174 l0 x8_1).f2), .int .i64 ((rd_T174 l0 x8_1).f3)], .pointer (some ⟨gc1, 0, none⟩)] rfl rfl (by (try simp only [List.map_toArray, List.map_cons, List.map_nil]); first | done | rfl | (simp only [List.length_drop, List.length_take]; rfl)) rfl ?_; (with_reducible refine (impl_ThreadOk_3.calls ((rd_T174 l0 x8_1).f0) ((rd_T174 l0 x8_1).f1) ((rd_T174 l0 x8_1).f2) ((rd_T174 l0 x8_1).f3) gc1 a1 true _ ?side1 A6.out).mono ?_); (case side1 => exact (bX BKz1.out)); rintro e wx1 ⟨rfl, hb⟩; refine ⟨_, rfl, ?_⟩; replace BKz1 := aB BKz1 hb; replace HB := aS HB hb; clear hb)
    go_ret
    exact ⟨rE, (hX HB.out)⟩
   rw [if_neg nft] at H
   have H' := aM H
   clear H
   obtain ⟨adx1, ex1, px1, qx1, hxx1⟩ := at_T174c HR0 HB x8_1
   cases ex1
   go_wp2_with ((with_reducible refine Go.Proofs.YtmljebgideecjaaGreatZ.gate_calleeT (t := 11) rfl ?_); refine Go.Proofs.YtmljebgideecjaaGreatZ.goesTC_ (some 16) 11 rfl rfl Tryz.func185 (by kernel_rfl) rfl #[.agg #[.int .i64 ((rd_T174 l0 x8_1).f0), .int .i64 ((rd_T174 l0 x8_1).f1), .int .i64 ((rd_T174 l0 x8_1).f2), .int .i64 ((rd_T174 l0 x8_1).f3)]] #[.pointer (some ⟨gc1, 0, none⟩)] #[.agg #[.int .i64 ((rd_T174 l0 x8_1).f0), .int .i64 ((rd_T174 l0 x8_1).f1), .int .i64 ((rd_T174 l0 x8_1).f2), .int .i64 ((rd_T174 l0 x8_1).f3)], .pointer (some ⟨gc1, 0, none⟩)] rfl rfl (by (try simp only [List.map_toArray, List.map_cons, List.map_nil]); first | done | rfl | (simp only [List.length_drop, List.length_take]; rfl)) rfl ?_; (with_reducible refine (impl_ThreadOk_3.calls ((rd_T174 l0 x8_1).f0) ((rd_T174 l0 x8_1).f1) ((rd_T174 l0 x8_1).f2) ((rd_T174 l0 x8_1).f3) gc1 a1 false _ ?side1 A6.out).mono ?_); (case side1 => exact (bX BKz1.out)); rintro e wx1 ⟨rfl, hb⟩; refine ⟨_, rfl, ?_⟩; replace BKz1 := aB BKz1 hb; replace HB := aS HB hb; clear hb)
   go_roundg k1
   case measure => have := HKy1.out; omega
   case rel => exact ⟨(wrap64 (x8_1 + 1)), rS, H', ⟨by have := HKy1.out; omega⟩, ⟨(bX BKz1.out)⟩, ⟨(hX HB.out)⟩⟩
def impl_Help_184_185.f (k : Nat) (l0 : List (S174)) (a1 : Int) : Option (Bool) := (impl_Help_212_185.f k l0 a1).bind fun t101 => (some (decide (t101 ≥ 0)))
theorem impl_Help_184_185.calls (k : Nat) (A0 : Option Addr) (c0 : Nat) (l0 : List (S174)) (gc1 : Nat) (a1 : Int) (r : Bool) (w : World) (hr0 : Kd.C k174 w A0 l0.length l0) (hc0 : l0.length ≤ c0) (hbc1 : w.heap[gc1]? = some (.cells #[.int .i64 a1] 3 (0, 0))) (h : impl_Help_184_185.f k l0 a1 = some r) :
  Calls Tryz.prog 184 #[.slice A0 l0.length c0, .func (.func 185) #[] #[.pointer (some ⟨gc1, 0, none⟩)]] w fun e w' => e = .returned (.bool r) ∧ Below w.heap.size w w' := by
 have HR0 := aM hr0
 have HC0 := aM hc0
 clear hr0 hc0
 have BKz1 := aM hbc1
 clear hbc1
 have HB := aM (Below.refl w.heap.size w)
 have H := h
 unfold impl_Help_184_185.f at H
 clear h
 replace H := bE H; obtain ⟨tz1, Az1, H⟩ := H
 obtain rfl := sI H
 go_enter Tryz.func184, Tryz.ntmps184
 go_wp2_with (refine gB 212 7 Tryz.func212 (impl_Help_212_185.calls k _ _ l0 gc1 a1 tz1 _ (cX HR0.out) HC0.out (by exact (bX BKz1.out)) Az1.out) ?_; intro wz1 hb; replace BKz1 := aB BKz1 hb; replace HB := aS HB hb; clear hb)
 go_ret
 exact ⟨rE, (hX HB.out)⟩
mutual
def impl_ThreadOk.j0 : Nat → Bool → List (S69) → Int → Bool → List (S172) → List (S174) → Int → Option (Bool)
 | 0, _, _, _, _, _, _, _ => none
 | k + 1, x46, x102000, x102001, x102002, x102003, x102004, x103000 => if x46 = true then (some false) else (if x102002 = true then (impl_ThreadOk.j1 k false x102000 x102001 x102002 x102003 x102004 x103000) else (impl_ThreadOk.j1 k (decide ((wrap64 ((x102003.length : Int) + (x102004.length : Int))) > 0)) x102000 x102001 x102002 x102003 x102004 x103000))
def impl_ThreadOk.j1 : Nat → Bool → List (S69) → Int → Bool → List (S172) → List (S174) → Int → Option (Bool)
 | 0, _, _, _, _, _, _, _ => none
 | k + 1, x59, x102000, x102001, x102002, x102003, x102004, x103000 => if x59 = true then (some false) else ((impl_Pair_180_181.f k x102003).bind fun t105 => (if t105 = true then (some false) else ((impl_Help_184_185.f k x102004 x103000).bind fun t106 => (some (!t106)))))
end
def impl_ThreadOk.f (k : Nat) (l0_0 : List (S69)) (a0_1 : Int) (a0_2 : Bool) (l0_3 : List (S172)) (l0_4 : List (S174)) (a1 : Int) : Option (Bool) := if (l0_0.length : Int) > 8 then (impl_ThreadOk.j0 k true l0_0 a0_1 a0_2 l0_3 l0_4 a1) else ((impl_Op_178_179.f k l0_0).bind fun t103 => (if t103 = true then (impl_ThreadOk.j0 k true l0_0 a0_1 a0_2 l0_3 l0_4 a1) else ((impl_from.f a0_1 0 (l0_0.length : Int)).bind fun t104 => (if t104 = true then (if a0_2 = true then (if a0_1 = (l0_0.length : Int) then (impl_ThreadOk.j0 k true l0_0 a0_1 a0_2 l0_3 l0_4 a1) else (if (l0_3.length : Int) > 12 then (impl_ThreadOk.j0 k true l0_0 a0_1 a0_2 l0_3 l0_4 a1) else (impl_ThreadOk.j0 k (decide ((l0_4.length : Int) > 2)) l0_0 a0_1 a0_2 l0_3 l0_4 a1))) else (if (l0_3.length : Int) > 12 then (impl_ThreadOk.j0 k true l0_0 a0_1 a0_2 l0_3 l0_4 a1) else (impl_ThreadOk.j0 k (decide ((l0_4.length : Int) > 2)) l0_0 a0_1 a0_2 l0_3 l0_4 a1))) else (impl_ThreadOk.j0 k true l0_0 a0_1 a0_2 l0_3 l0_4 a1)))))
theorem impl_ThreadOk.calls (k : Nat) (A0_0 : Option Addr) (c0_0 : Nat) (l0_0 : List (S69)) (a0_1 : Int) (a0_2 : Bool) (A0_3 : Option Addr) (c0_3 : Nat) (l0_3 : List (S172)) (A0_4 : Option Addr) (c0_4 : Nat) (l0_4 : List (S174)) (a1 : Int) (r : Bool) (w : World) (hr0_0 : Kd.C k69 w A0_0 l0_0.length l0_0) (hc0_0 : l0_0.length ≤ c0_0) (hr0_3 : Kd.C k172 w A0_3 l0_3.length l0_3) (hc0_3 : l0_3.length ≤ c0_3) (hr0_4 : Kd.C k174 w A0_4 l0_4.length l0_4) (hc0_4 : l0_4.length ≤ c0_4) (h : impl_ThreadOk.f k l0_0 a0_1 a0_2 l0_3 l0_4 a1 = some r) :
  Calls Tryz.prog 106 #[.agg #[.slice A0_0 l0_0.length c0_0, .int .i64 a0_1, .bool a0_2, .slice A0_3 l0_3.length c0_3, .slice A0_4 l0_4.length c0_4], .int .i64 a1] w fun e w' => e = .returned (.bool r) ∧ Below w.heap.size w w' := by
 have hu97 := Tryz.underlying97
 have HR0_0 := aM hr0_0
 have HC0_0 := aM hc0_0
 clear hr0_0 hc0_0
 have HR0_3 := aM hr0_3
 have HC0_3 := aM hc0_3
 clear hr0_3 hc0_3
 have HR0_4 := aM hr0_4
 have HC0_4 := aM hc0_4
 clear hr0_4 hc0_4
 have HB := aM (Below.refl w.heap.size w)
 have H := h
 unfold impl_ThreadOk.f at H
 clear h
 have HC3 := aM H
 clear H
 go_enter Tryz.func106, Tryz.ntmps106
 go_upto_region 1 with (first | ((with_reducible refine gate_dst (N := 2) rfl ?_); (try (refine gate_guard (by rfl) ?_; dsimp only)); refine boxF 2 #[.slice A0_0 l0_0.length c0_0, .int .i64 a0_1, .bool a0_2, .slice A0_3 l0_3.length c0_3, .slice A0_4 l0_4.length c0_4] 97 ?_; intro gbz1 hg wz1 hbox hb; have BKz1 := aM (hbox); have GWz1 := aG hg HB; have GEz1 := aG hg HB; replace HB := aS HB hb; clear hb hbox hg) | ((with_reducible refine gate_dst (N := 3) rfl ?_); (try (refine gate_guard (by rfl) ?_; dsimp only)); refine boxF 3 #[.int .i64 a1] 3 ?_; intro gbz2 hg wz2 hbox hb; have BKz2 := aM (hbox); have GWz2 := aG hg HB; have GEz2 := aG hg HB; have NBz1 := aL hg BKz1; have NBz2 := aR hg BKz1; replace BKz1 := aB BKz1 hb; replace HB := aS HB hb; clear hb hbox hg))
 (try simp only [Act.put, List.setIfInBounds_toArray, List.set_cons_zero, List.set_cons_succ])
 go_cut [46] (fun vz1 wc => ∃ (kq : Nat) (x46_2 : Bool), vz1 = .bool x46_2 ∧ Aside0 (impl_ThreadOk.j0 kq x46_2 l0_0 a0_1 a0_2 l0_3 l0_4 a1 = some r) ∧ Aside0 (kq ≤ k) ∧ Aside0 (wc.heap[gbz1]? = some (.cells #[(.slice A0_0 l0_0.length c0_0), .int .i64 a0_1, .bool a0_2, (.slice A0_3 l0_3.length c0_3), (.slice A0_4 l0_4.length c0_4)] 97 (0, 0))) ∧ Aside0 (wc.heap[gbz2]? = some (.cells #[.int .i64 a1] 3 (0, 0))) ∧ Aside0 (Below w.heap.size w wc))
 case first =>
  have H := HC3.out
  clear HC3
  by_cases c6 : (l0_0.length : Int) > 8
  ·rw [if_pos c6] at H
   have c6b0 := decide_eq_true c6
   have c6b1 : decide (8 < l0_0.length) = true := decide_eq_true (by omega)
   clear c6
   (first | rw [c6b0] | (simp only [i64_w, i32_w]; rw [c6b0]) | skip)
   have H' := aM H
   clear H
   have hnby1 := NBz1.out
   have hncy1 := NBz2.out
   have hczy1 := cZ5 BKz1.out
   go_wp2
   go_meet
   case rel => exact ⟨_, (true), rS, H', ⟨by first | omega | exact Nat.le_refl _⟩, ⟨(bX BKz1.out)⟩, ⟨(bX BKz2.out)⟩, ⟨(hX HB.out)⟩⟩
  rw [if_neg c6] at H
  have c6b0 := decide_eq_false c6
  have c6b1 : decide (8 < l0_0.length) = false := decide_eq_false (by omega)
  clear c6
  (first | rw [c6b0] | (simp only [i64_w, i32_w]; rw [c6b0]) | skip)
  replace H := bE H; obtain ⟨t103, A9, H⟩ := H
  cases t103
  case true =>
   rw [if_pos rfl] at H
   have H' := aM H
   clear H
   have hnby1 := NBz1.out
   have hncy1 := NBz2.out
   have hczy1 := cZ5 BKz1.out
   go_wp2_with (go_at_call 178; (with_reducible refine (impl_Op_178_179.calls _ _ _ _ _ _ (cC HR0_0.out HB.out) HC0_0.out A9.out).mono ?_); rintro e wy1 ⟨rfl, hb⟩; replace BKz1 := aB BKz1 hb; replace BKz2 := aB BKz2 hb; replace HB := aS HB hb; clear hb)
   go_meet
   case rel => exact ⟨_, (true), rS, H', ⟨by first | omega | exact Nat.le_refl _⟩, ⟨(bX BKz1.out)⟩, ⟨(bX BKz2.out)⟩, ⟨(hX HB.out)⟩⟩
  rw [if_neg nft] at H
  replace H := bE H; obtain ⟨t104, A14, H⟩ := H
  have hnby1 := NBz1.out
  have hncy1 := NBz2.out
  have hczy1 := cZ5 BKz1.out
  go_wp2_with (go_at_call 178; (with_reducible refine (impl_Op_178_179.calls _ _ _ _ _ _ (cC HR0_0.out HB.out) HC0_0.out A9.out).mono ?_); rintro e wy1 ⟨rfl, hb⟩; replace BKz1 := aB BKz1 hb; replace BKz2 := aB BKz2 hb; replace HB := aS HB hb; clear hb; have hczy6 := cZ5 BKz1.out; refine Stop.out ?_)
  refine ⟨?_⟩
  cases t104
  case false =>
   rw [if_neg nft] at H
   have H' := aM H
   clear H
   go_wp2_with (go_at_call 102; (with_reducible refine (impl_from.calls _ _ _ _ _ A14.out).mono ?_); rintro e w' ⟨rfl, ⟨nd, rfl⟩⟩)
   go_meet
   case rel => exact ⟨_, (true), rS, H', ⟨by first | omega | exact Nat.le_refl _⟩, ⟨(bX BKz1.out)⟩, ⟨(bX BKz2.out)⟩, ⟨(hX HB.out)⟩⟩
  rw [if_pos rfl] at H
  go_wp2_with (go_at_call 102; (with_reducible refine (impl_from.calls _ _ _ _ _ A14.out).mono ?_); rintro e w' ⟨rfl, ⟨nd, rfl⟩⟩; refine Stop.out ?_)
  refine ⟨?_⟩
  by_cases c16 : a0_2 = true
  case neg =>
   replace c16 := Bool.eq_false_iff.mpr c16
   subst c16
   rw [if_neg nft] at H
   by_cases c31 : (l0_3.length : Int) > 12
   ·rw [if_pos c31] at H
    have c31b0 := decide_eq_true c31
    have c31b1 : decide (12 < l0_3.length) = true := decide_eq_true (by omega)
    clear c31
    have H' := aM H
    clear H
    go_wp2
    go_meet
    case rel => exact ⟨_, (true), rS, H', ⟨by first | omega | exact Nat.le_refl _⟩, ⟨(bX BKz1.out)⟩, ⟨(bX BKz2.out)⟩, ⟨(hX HB.out)⟩⟩
   rw [if_neg c31] at H
   have c31b0 := decide_eq_false c31
   have c31b1 : decide (12 < l0_3.length) = false := decide_eq_false (by omega)
   clear c31
   have H' := aM H
   clear H
   go_wp2
   go_meet
   case rel => exact ⟨_, (decide ((l0_4.length : Int) > 2)), rS, H', ⟨by first | omega | exact Nat.le_refl _⟩, ⟨(bX BKz1.out)⟩, ⟨(bX BKz2.out)⟩, ⟨(hX HB.out)⟩⟩
  subst c16
  rw [if_pos rfl] at H
  revert H; refine eP (fun c17b0 c17b1 H => ?_) (fun c17b0 c17b1 H => ?_)
  ·have H' := aM H
   clear H
   go_wp2
   go_meet
   case rel => exact ⟨_, (true), rS, H', ⟨by first | omega | exact Nat.le_refl _⟩, ⟨(bX BKz1.out)⟩, ⟨(bX BKz2.out)⟩, ⟨(hX HB.out)⟩⟩
  by_cases c22 : (l0_3.length : Int) > 12
  ·rw [if_pos c22] at H
   have c22b0 := decide_eq_true c22
   have c22b1 : decide (12 < l0_3.length) = true := decide_eq_true (by omega)
   clear c22
   have H' := aM H
   clear H
   go_wp2
   go_meet
   case rel => exact ⟨_, (true), rS, H', ⟨by first | omega | exact Nat.le_refl _⟩, ⟨(bX BKz1.out)⟩, ⟨(bX BKz2.out)⟩, ⟨(hX HB.out)⟩⟩
  rw [if_neg c22] at H
  have c22b0 := decide_eq_false c22
  have c22b1 : decide (12 < l0_3.length) = false := decide_eq_false (by omega)
  clear c22
  have H' := aM H
  clear H
  go_wp2
  go_meet
  case rel => exact ⟨_, (decide ((l0_4.length : Int) > 2)), rS, H', ⟨by first | omega | exact Nat.le_refl _⟩, ⟨(bX BKz1.out)⟩, ⟨(bX BKz2.out)⟩, ⟨(hX HB.out)⟩⟩
 case rest =>
  clear HC3
  obtain ⟨kq, x46_2, rfl, HA, HJy1, BKz1, BKz2, HB⟩ := hcut
  cases kq with
  | zero => exact absurd HA.out (by simp [impl_ThreadOk.j0])
  | succ kj2 =>
   have H := HA.out
   clear HA
   simp only [impl_ThreadOk.j0] at H
   cases x46_2
   case true =>
    rw [if_pos rfl] at H
    exact fR
   rw [if_neg nft] at H
   have HC45 := aM H
   clear H
   go_upto_region 3 with (fail)
   go_cut [59] (fun vx1 wc => ∃ (kq : Nat) (x59_44 : Bool), vx1 = .bool x59_44 ∧ Aside0 (impl_ThreadOk.j1 kq x59_44 l0_0 a0_1 a0_2 l0_3 l0_4 a1 = some r) ∧ Aside0 (kq ≤ kj2) ∧ Aside0 (wc.heap[gbz1]? = some (.cells #[(.slice A0_0 l0_0.length c0_0), .int .i64 a0_1, .bool a0_2, (.slice A0_3 l0_3.length c0_3), (.slice A0_4 l0_4.length c0_4)] 97 (0, 0))) ∧ Aside0 (wc.heap[gbz2]? = some (.cells #[.int .i64 a1] 3 (0, 0))) ∧ Aside0 (Below w.heap.size w wc))
   case first =>
    have H := HC45.out
    clear HC45
    by_cases c46 : a0_2 = true
    ·subst c46
     rw [if_pos rfl] at H
     have H' := aM H
     clear H
     have hnbw1 := NBz1.out
     have hncw1 := NBz2.out
     have hczw1 := cZ5 BKz1.out
     go_wp2
     go_meet
     case rel => exact ⟨_, (false), rS, H', ⟨by have := HJy1.out; first | omega | exact Nat.le_refl _⟩, ⟨(bX BKz1.out)⟩, ⟨(bX BKz2.out)⟩, ⟨(hX HB.out)⟩⟩
    replace c46 := Bool.eq_false_iff.mpr c46
    subst c46
    rw [if_neg nft] at H
    have H' := aM H
    clear H
    have hnbw1 := NBz1.out
    have hncw1 := NBz2.out
    have hczw1 := cZ5 BKz1.out
    go_wp2
    go_meet
    case rel => exact ⟨_, (decide ((wrap64 ((l0_3.length : Int) + (l0_4.length : Int))) > 0)), rS, H', ⟨by have := HJy1.out; first | omega | exact Nat.le_refl _⟩, ⟨(bX BKz1.out)⟩, ⟨(bX BKz2.out)⟩, ⟨(hX HB.out)⟩⟩
   case rest =>
    clear HC45
    obtain ⟨kq, x59_44, rfl, HA, HJw1, BKz1, BKz2, HB⟩ := hcut
    cases kq with
    | zero => exact absurd HA.out (by simp [impl_ThreadOk.j1])
    | succ kj44 =>
     have H := HA.out
     clear HA
     simp only [impl_ThreadOk.j1] at H
     cases x59_44
     case true =>
      rw [if_pos rfl] at H
      exact fR
     rw [if_neg nft] at H
     replace H := bE H; obtain ⟨t105, A52, H⟩ := H
     cases t105
     case true =>
      rw [if_pos rfl] at H
      obtain rfl := sI H
      have hnbv1 := NBz1.out
      have hncv1 := NBz2.out
      have hczv1 := cZ5 BKz1.out
      go_wp2_with (refine gB 180 62 Tryz.func180 (impl_Pair_180_181.calls _ _ _ _ _ _ (cC HR0_3.out HB.out) HC0_3.out A52.out) ?_; intro wv1 hb; replace BKz1 := aB BKz1 hb; replace BKz2 := aB BKz2 hb; replace HB := aS HB hb; clear hb)
      go_ret
      exact ⟨rE, (hX HB.out)⟩
     rw [if_neg nft] at H
     replace H := bE H; obtain ⟨t106, A57, H⟩ := H
     obtain rfl := sI H
     have hnbv1 := NBz1.out
     have hncv1 := NBz2.out
     have hczv1 := cZ5 BKz1.out
     go_wp2_with (first | (refine gB 180 62 Tryz.func180 (impl_Pair_180_181.calls _ _ _ _ _ _ (cC HR0_3.out HB.out) HC0_3.out A52.out) ?_; intro wv1 hb; replace BKz1 := aB BKz1 hb; replace BKz2 := aB BKz2 hb; replace HB := aS HB hb; clear hb; have hczv6 := cZ5 BKz1.out) | (refine gB 184 66 Tryz.func184 (impl_Help_184_185.calls kj44 _ _ l0_4 gbz2 a1 t106 _ (cC HR0_4.out HB.out) HC0_4.out (by exact (bX BKz2.out)) A57.out) ?_; intro wv2 hb; replace BKz1 := aB BKz1 hb; replace BKz2 := aB BKz2 hb; replace HB := aS HB hb; clear hb))
     go_ret
     exact ⟨rE, (hX HB.out)⟩
end Go.Proofs.YtmljebgideecjaaGreat.P2
namespace Go.Proofs.YtmljebgideecjaaGreat.P2
open Go.Proofs.YtmljebgideecjaaGreatZ Go.RowKit Go.Proofs.YtmljebgideecjaaGreatW.PrintWords Go.Proofs.YtmljebgideecjaaGreatW.PrintLast Go.Proofs.YtmljebgideecjaaGreatW.PrintMore
attribute [local go_sem] max2_int min2_int max_two min_two max_three min_three max_four min_four   -- for this text's walks alone
attribute [local go_sem high] eqA69
def impl_callsOk.l0 : Nat → Int → Int → Int → Int → List (S73) → Int → Int → List (S140) → List (S162) → List (S97) → Int → List (S73) → List Int → List Int → Int → List (S69) → Int → Bool → List (S172) → List (S174) → Option (Bool)
 | 0, _, _, _, _, _, _, _, _, _, _, _, _, _, _, _, _, _, _, _, _ => none
 | k + 1, x1, x6, x7, x8, x17, x18, x19, x102000, x102001, x102002, x102003, x102004, x102005, x102006, x102007, x104000, x104001, x104002, x104003, x104004 => if x19 < x18 then (if 0 ≤ x19 then (if x19 < (x17.length : Int) then (if ((rd_T73 x17 x19).f0) = x1 then (if ((rd_T73 x17 x19).f4) ≥ 0 then (impl_callsOk.l0 k x1 x19 (wrap64 (x7 + 1)) x8 x17 x18 (wrap64 (x19 + 1)) x102000 x102001 x102002 x102003 x102004 x102005 x102006 x102007 x104000 x104001 x104002 x104003 x104004) else (impl_callsOk.l0 k x1 x19 x7 (wrap64 (x8 + 1)) x17 x18 (wrap64 (x19 + 1)) x102000 x102001 x102002 x102003 x102004 x102005 x102006 x102007 x104000 x104001 x104002 x104003 x104004)) else (impl_callsOk.l0 k x1 x6 x7 x8 x17 x18 (wrap64 (x19 + 1)) x102000 x102001 x102002 x102003 x102004 x102005 x102006 x102007 x104000 x104001 x104002 x104003 x104004)) else (none)) else (none)) else (if x7 = x104001 then (if x104002 = true then (if x6 ≥ 0 then (if x8 = 1 then (if 0 ≤ x6 then (if x6 < (x102004.length : Int) then (if ((rd_T73 x102004 x6).f4) = (-1) then (if 0 ≤ x104001 then (if x104001 < (x104000.length : Int) then (some (((rd_T73 x102004 x6).f1.f0) == ((rd_T69 x104000 x104001).f0) && (((rd_T73 x102004 x6).f1.f1) == ((rd_T69 x104000 x104001).f1) && (((rd_T73 x102004 x6).f1.f2) == ((rd_T69 x104000 x104001).f2))))) else (none)) else (none)) else (some false)) else (none)) else (none)) else (some false)) else (some false)) else (some (x8 == 0))) else (some false))
def impl_callsOk.f (k : Nat) (l0_0 : List (S140)) (l0_1 : List (S162)) (l0_2 : List (S97)) (a0_3 : Int) (l0_4 : List (S73)) (l0_5 : List Int) (l0_6 : List Int) (a0_7 : Int) (a1 : Int) : Option (Bool) := if 0 ≤ a1 then (if a1 < (l0_2.length : Int) then (impl_callsOk.l0 k a1 (-1) 0 0 l0_4 (l0_4.length : Int) 0 l0_0 l0_1 l0_2 a0_3 l0_4 l0_5 l0_6 a0_7 ((rd_T97 l0_2 a1).f0) ((rd_T97 l0_2 a1).f1) ((rd_T97 l0_2 a1).f2) ((rd_T97 l0_2 a1).f3) ((rd_T97 l0_2 a1).f4)) else (none)) else (none)
theorem impl_callsOk.calls (k : Nat) (A0_0 : Option Addr) (c0_0 : Nat) (l0_0 : List (S140)) (A0_1 : Option Addr) (c0_1 : Nat) (l0_1 : List (S162)) (A0_2 : Option Addr) (c0_2 : Nat) (l0_2 : List (S97)) (a0_3 : Int) (A0_4 : Option Addr) (c0_4 : Nat) (l0_4 : List (S73)) (A0_5 : Option Addr) (c0_5 : Nat) (l0_5 : List Int) (A0_6 : Option Addr) (c0_6 : Nat) (l0_6 : List Int) (a0_7 : Int) (a1 : Int) (r : Bool) (w : World) (hr0_0 : Kd.C k140 w A0_0 l0_0.length l0_0) (hc0_0 : l0_0.length ≤ c0_0) (hr0_1 : Kd.C k162 w A0_1 l0_1.length l0_1) (hc0_1 : l0_1.length ≤ c0_1) (hr0_2 : Kd.C k97 w A0_2 l0_2.length l0_2) (hc0_2 : l0_2.length ≤ c0_2) (hr0_4 : Kd.C k73 w A0_4 l0_4.length l0_4) (hc0_4 : l0_4.length ≤ c0_4) (hr0_5 : Kd.C (Kd.int .i64) w A0_5 l0_5.length l0_5) (hc0_5 : l0_5.length ≤ c0_5) (hr0_6 : Kd.C (Kd.int .i64) w A0_6 l0_6.length l0_6) (hc0_6 : l0_6.length ≤ c0_6) (h : impl_callsOk.f k l0_0 l0_1 l0_2 a0_3 l0_4 l0_5 l0_6 a0_7 a1 = some r) :
  Calls Tryz.prog 107 #[.agg #[.slice A0_0 l0_0.length c0_0, .slice A0_1 l0_1.length c0_1, .slice A0_2 l0_2.length c0_2, .int .i64 a0_3, .slice A0_4 l0_4.length c0_4, .slice A0_5 l0_5.length c0_5, .slice A0_6 l0_6.length c0_6, .int .i64 a0_7], .int .i64 a1] w fun e w' => e = .returned (.bool r) ∧ Below w.heap.size w w' := by
 have hu43 := Tryz.underlying43
 have hu97 := Tryz.underlying97
 have hu73 := Tryz.underlying73
 have hu69 := Tryz.underlying69
 have HR0_0 := aM hr0_0
 have HC0_0 := aM hc0_0
 clear hr0_0 hc0_0
 have HR0_1 := aM hr0_1
 have HC0_1 := aM hc0_1
 clear hr0_1 hc0_1
 have HR0_2 := aM hr0_2
 have HC0_2 := aM hc0_2
 clear hr0_2 hc0_2
 have HR0_4 := aM hr0_4
 have HC0_4 := aM hc0_4
 clear hr0_4 hc0_4
 have HR0_5 := aM hr0_5
 have HC0_5 := aM hc0_5
 clear hr0_5 hc0_5
 have HR0_6 := aM hr0_6
 have HC0_6 := aM hc0_6
 clear hr0_6 hc0_6
 have HB := aM (Below.refl w.heap.size w)
 have H := h
 unfold impl_callsOk.f at H
 clear h
 replace H := ifQ H; obtain ⟨c3b0, H⟩ := H
 replace H := ifQ H; obtain ⟨c4b0, H⟩ := H
 have H' := aM H
 clear H
 go_enter Tryz.func107, Tryz.ntmps107
 go_wp2_with (first | (refine boxE 2 #[.slice A0_0 l0_0.length c0_0, .slice A0_1 l0_1.length c0_1, .slice A0_2 l0_2.length c0_2, .int .i64 a0_3, .slice A0_4 l0_4.length c0_4, .slice A0_5 l0_5.length c0_5, .slice A0_6 l0_6.length c0_6, .int .i64 a0_7] 43 ?_; intro gbz1 hg wz1 hbox hb; have BKz1 := aM (hbox); have GWz1 := aG hg HB; have GEz1 := aG hg HB; replace HB := aS HB hb; clear hb hbox hg; have hczz1 := cZ8 BKz1.out; have pz1 : 0 ≤ (a1 : Int) := odA; have qz1 : a1 < (l0_2.length : Int) := odA; obtain ⟨adz1, Az1, cz1, Az2, cz2, Az3, cz3, ez1, hxz1, hxz2, hxz3, hxz4, hxz5, hlz1, hiz1, hlz2, hiz2, hlz3, hiz3⟩ := at_T97 HR0_2.out a1 pz1 qz1; cases ez1; replace hxz1 := bc HB.out hxz1; replace hxz2 := bc HB.out hxz2; replace hxz3 := bc HB.out hxz3; replace hxz4 := bc HB.out hxz4; replace hxz5 := bc HB.out hxz5; have HRz1 := aM hiz1; have HCz1 := aM hlz1; clear hiz1 hlz1; have HRz2 := aM hiz2; have HCz2 := aM hlz2; clear hiz2 hlz2; have HRz3 := aM hiz3; have HCz3 := aM hlz3; clear hiz3 hlz3; replace pz1 := eq_true pz1; replace qz1 := eq_true qz1) | (refine boxE 5 #[.slice none 0 0, .int .i64 0, .bool false, .slice none 0 0, .slice none 0 0] 97 ?_; intro gbz2 hg wz2 hbox hb; have BKz2 := aM (hbox); have GWz2 := aG hg HB; have GEz2 := aG hg HB; have NBz1 := aL hg BKz1; have NBz2 := aR hg BKz1; replace BKz1 := aB BKz1 hb; replace HB := aS HB hb; clear hb hbox hg; have hnbz1 := NBz2.out; have hncz1 := NBz1.out; have hczz9 := cZ5 BKz2.out; have hczz14 := cZ8 BKz1.out))
 repeat (go_quiet (fail); try go_wp2_with (first | ((with_reducible refine gate_dst (N := 2) rfl ?_); refine boxF 2 #[.slice A0_0 l0_0.length c0_0, .slice A0_1 l0_1.length c0_1, .slice A0_2 l0_2.length c0_2, .int .i64 a0_3, .slice A0_4 l0_4.length c0_4, .slice A0_5 l0_5.length c0_5, .slice A0_6 l0_6.length c0_6, .int .i64 a0_7] 43 ?_; intro gbz1 hg wz1 hbox hb; have BKz1 := aM (hbox); have GWz1 := aG hg HB; have GEz1 := aG hg HB; replace HB := aS HB hb; clear hb hbox hg; have hczz1 := cZ8 BKz1.out; have pz1 : 0 ≤ (a1 : Int) := odA; have qz1 : a1 < (l0_2.length : Int) := odA; obtain ⟨adz1, Az1, cz1, Az2, cz2, Az3, cz3, ez1, hxz1, hxz2, hxz3, hxz4, hxz5, hlz1, hiz1, hlz2, hiz2, hlz3, hiz3⟩ := at_T97 HR0_2.out a1 pz1 qz1; cases ez1; replace hxz1 := bc HB.out hxz1; replace hxz2 := bc HB.out hxz2; replace hxz3 := bc HB.out hxz3; replace hxz4 := bc HB.out hxz4; replace hxz5 := bc HB.out hxz5; have HRz1 := aM hiz1; have HCz1 := aM hlz1; clear hiz1 hlz1; have HRz2 := aM hiz2; have HCz2 := aM hlz2; clear hiz2 hlz2; have HRz3 := aM hiz3; have HCz3 := aM hlz3; clear hiz3 hlz3; replace pz1 := eq_true pz1; replace qz1 := eq_true qz1) | ((with_reducible refine gate_dst (N := 5) rfl ?_); refine boxF 5 #[.slice none 0 0, .int .i64 0, .bool false, .slice none 0 0, .slice none 0 0] 97 ?_; intro gbz2 hg wz2 hbox hb; have BKz2 := aM (hbox); have GWz2 := aG hg HB; have GEz2 := aG hg HB; have NBz1 := aL hg BKz1; have NBz2 := aR hg BKz1; replace BKz1 := aB BKz1 hb; replace HB := aS HB hb; clear hb hbox hg; have hnbz1 := NBz2.out; have hncz1 := NBz1.out; have hczz9 := cZ5 BKz2.out; have hczz14 := cZ8 BKz1.out)))
 go_loopg [6, 7, 8, 19] k (fun kq v6 v7 v8 v19 w' => ∃ (x6_1 : Int) (x7_1 : Int) (x8_1 : Int) (x19_1 : Int), v6 = .int .i64 x6_1 ∧ v7 = .int .i64 x7_1 ∧ v8 = .int .i64 x8_1 ∧ v19 = .int .i64 x19_1 ∧ Aside0 (impl_callsOk.l0 kq a1 x6_1 x7_1 x8_1 l0_4 (l0_4.length : Int) x19_1 l0_0 l0_1 l0_2 a0_3 l0_4 l0_5 l0_6 a0_7 ((rd_T97 l0_2 a1).f0) ((rd_T97 l0_2 a1).f1) ((rd_T97 l0_2 a1).f2) ((rd_T97 l0_2 a1).f3) ((rd_T97 l0_2 a1).f4) = some r) ∧ Aside0 (kq ≤ k) ∧ Aside0 (w'.heap[gbz1]? = some (.cells #[(.slice A0_0 l0_0.length c0_0), (.slice A0_1 l0_1.length c0_1), (.slice (some adz1) l0_2.length c0_2), .int .i64 a0_3, (.slice A0_4 l0_4.length c0_4), (.slice A0_5 l0_5.length c0_5), (.slice A0_6 l0_6.length c0_6), .int .i64 a0_7] 43 (0, 0))) ∧ Aside0 (w'.heap[gbz2]? = some (.cells #[(.slice Az1 ((rd_T97 l0_2 a1).f0).length cz1), .int .i64 ((rd_T97 l0_2 a1).f1), .bool ((rd_T97 l0_2 a1).f2), (.slice Az2 ((rd_T97 l0_2 a1).f3).length cz2), (.slice Az3 ((rd_T97 l0_2 a1).f4).length cz3)] 97 (0, 0))) ∧ Aside0 (Below w.heap.size w w'))
 case atStart => exact ⟨((-1)), (0), (0), (0), rS, rS, rS, rS, H', ⟨Nat.le_refl _⟩, ⟨(bF BKz1.out)⟩, ⟨(bP BKz2.out)⟩, ⟨(hX HB.out)⟩⟩
 case round =>
  clear H'
  try clear c3b0
  try clear c4b0
  try clear hczz14
  try clear hczz1
  try clear hczz9
  try clear hxz1
  try clear hxz2
  try clear hxz3
  try clear hxz4
  try clear hxz5
  try clear pz1
  try clear qz1
  obtain ⟨x6_1, x7_1, x8_1, x19_1, rfl, rfl, rfl, rfl, HA, HKy1, BKz1, BKz2, HB⟩ := hrel
  cases gk with
  | zero => exact absurd HA.out (by simp [impl_callsOk.l0])
  | succ k1 =>
   have H := HA.out
   clear HA
   simp only [impl_callsOk.l0] at H
   revert H; refine iP (fun c11b0 H => ?_) (fun c11b0 H => ?_)
   ·replace H := ifP H; obtain ⟨c12, H⟩ := H
    have c12b0 := decide_eq_true c12
    clear c12
    replace H := ifQ H; obtain ⟨c13b0, H⟩ := H
    obtain ⟨adx1, Ax1, cx1, ex1, px1, qx1, hxx1, HCx1, HRx1⟩ := at_T73c HR0_4 HB x19_1
    cases ex1
    go_wp2_with (refine boxE 10 #[.int .i64 0, .int .i64 0, .int .i64 0, .int .i64 0, .int .i64 0, .int .i64 0, .int .i64 0, .int .i64 0, .slice none 0 0] 73 ?_; intro gbx1 hg wx1 hbox hb; have BKx1 := aM (hbox); have GWx1 := aG hg HB; have GEx1 := aG hg HB; have NBx1 := aL hg BKz1; have NBx2 := aR hg BKz1; have NBx3 := aL hg BKz2; have NBx4 := aR hg BKz2; replace BKz1 := aB BKz1 hb; replace BKz2 := aB BKz2 hb; replace HB := aS HB hb; clear hb hbox hg; have hnbx1 := NBx2.out; have hncx1 := NBx1.out; have hnbx2 := NBx4.out; have hncx2 := NBx3.out; have hczx1 := cZ9 BKx1.out; refine Stop.out ?_)
    refine ⟨?_⟩
    revert H; refine eN (fun c14b0 c14b1 H => ?_) (fun c14b0 c14b1 H => ?_)
    ·have H' := aM H
     clear H
     go_wp2
     repeat (go_quiet (fail); try go_wp2_with ((with_reducible refine gate_dst (N := 10) rfl ?_); refine boxF 10 #[.int .i64 0, .int .i64 0, .int .i64 0, .int .i64 0, .int .i64 0, .int .i64 0, .int .i64 0, .int .i64 0, .slice none 0 0] 73 ?_; intro gbx1 hg wx1 hbox hb; have BKx1 := aM (hbox); have GWx1 := aG hg HB; have GEx1 := aG hg HB; have NBx1 := aL hg BKz1; have NBx2 := aR hg BKz1; have NBx3 := aL hg BKz2; have NBx4 := aR hg BKz2; replace BKz1 := aB BKz1 hb; replace BKz2 := aB BKz2 hb; replace HB := aS HB hb; clear hb hbox hg; have hnbx1 := NBx2.out; have hncx1 := NBx1.out; have hnbx2 := NBx4.out; have hncx2 := NBx3.out; have hczx1 := cZ9 BKx1.out))
     go_roundg k1
     case measure => have := HKy1.out; omega
     case rel => exact ⟨(x6_1), (x7_1), (x8_1), (wrap64 (x19_1 + 1)), rS, rS, rS, rS, H', ⟨by have := HKy1.out; omega⟩, ⟨(bF BKz1.out)⟩, ⟨(bF BKz2.out)⟩, ⟨(hX HB.out)⟩⟩
    revert H; refine iP (fun c15b0 H => ?_) (fun c15b0 H => ?_)
    ·have H' := aM H
     clear H
     go_wp2
     repeat (go_quiet (fail); try go_wp2_with ((with_reducible refine gate_dst (N := 10) rfl ?_); refine boxF 10 #[.int .i64 0, .int .i64 0, .int .i64 0, .int .i64 0, .int .i64 0, .int .i64 0, .int .i64 0, .int .i64 0, .slice none 0 0] 73 ?_; intro gbx1 hg wx1 hbox hb; have BKx1 := aM (hbox); have GWx1 := aG hg HB; have GEx1 := aG hg HB; have NBx1 := aL hg BKz1; have NBx2 := aR hg BKz1; have NBx3 := aL hg BKz2; have NBx4 := aR hg BKz2; replace BKz1 := aB BKz1 hb; replace BKz2 := aB BKz2 hb; replace HB := aS HB hb; clear hb hbox hg; have hnbx1 := NBx2.out; have hncx1 := NBx1.out; have hnbx2 := NBx4.out; have hncx2 := NBx3.out; have hczx1 := cZ9 BKx1.out))
     go_roundg k1
     case measure => have := HKy1.out; omega
     case rel => exact ⟨(x19_1), (wrap64 (x7_1 + 1)), (x8_1), (wrap64 (x19_1 + 1)), rS, rS, rS, rS, H', ⟨by have := HKy1.out; omega⟩, ⟨(bF BKz1.out)⟩, ⟨(bF BKz2.out)⟩, ⟨(hX HB.out)⟩⟩
    have H' := aM H
    clear H
    go_wp2
    repeat (go_quiet (fail); try go_wp2_with ((with_reducible refine gate_dst (N := 10) rfl ?_); refine boxF 10 #[.int .i64 0, .int .i64 0, .int .i64 0, .int .i64 0, .int .i64 0, .int .i64 0, .int .i64 0, .int .i64 0, .slice none 0 0] 73 ?_; intro gbx1 hg wx1 hbox hb; have BKx1 := aM (hbox); have GWx1 := aG hg HB; have GEx1 := aG hg HB; have NBx1 := aL hg BKz1; have NBx2 := aR hg BKz1; have NBx3 := aL hg BKz2; have NBx4 := aR hg BKz2; replace BKz1 := aB BKz1 hb; replace BKz2 := aB BKz2 hb; replace HB := aS HB hb; clear hb hbox hg; have hnbx1 := NBx2.out; have hncx1 := NBx1.out; have hnbx2 := NBx4.out; have hncx2 := NBx3.out; have hczx1 := cZ9 BKx1.out))
    go_roundg k1
    case measure => have := HKy1.out; omega
    case rel => exact ⟨(x19_1), (x7_1), (wrap64 (x8_1 + 1)), (wrap64 (x19_1 + 1)), rS, rS, rS, rS, H', ⟨by have := HKy1.out; omega⟩, ⟨(bF BKz1.out)⟩, ⟨(bF BKz2.out)⟩, ⟨(hX HB.out)⟩⟩
   revert H; refine eN (fun c28b0 c28b1 H => ?_) (fun c28b0 c28b1 H => ?_)
   ·obtain rfl := sI H
    have hnbx1 := NBz2.out
    have hncx1 := NBz1.out
    have hczx1 := cZ5 BKz2.out
    go_wp2
    repeat (go_quiet (fail); try go_wp2)
    go_ret
    exact ⟨rE, (hX HB.out)⟩
   by_cases c29 : ((rd_T97 l0_2 a1).f2) = true
   case neg =>
    rw [if_neg c29] at H
    have c29b0 : ((rd_T97 l0_2 a1).f2) = false := by simpa using c29
    clear c29
    obtain rfl := sI H
    have hnbx1 := NBz2.out
    have hncx1 := NBz1.out
    have hczx1 := cZ5 BKz2.out
    go_wp2
    repeat (go_quiet (fail); try go_wp2)
    go_ret
    exact ⟨rE, (hX HB.out)⟩
   rw [if_pos c29] at H
   have c29b0 : ((rd_T97 l0_2 a1).f2) = true := c29
   clear c29
   revert H; refine iN (fun c30b0 H => ?_) (fun c30b0 H => ?_)
   ·obtain rfl := sI H
    have hnbx1 := NBz2.out
    have hncx1 := NBz1.out
    have hczx1 := cZ5 BKz2.out
    go_wp2
    repeat (go_quiet (fail); try go_wp2)
    go_ret
    exact ⟨rE, (hX HB.out)⟩
   revert H; refine eN (fun c31b0 c31b1 H => ?_) (fun c31b0 c31b1 H => ?_)
   ·obtain rfl := sI H
    have hnbx1 := NBz2.out
    have hncx1 := NBz1.out
    have hczx1 := cZ5 BKz2.out
    go_wp2
    repeat (go_quiet (fail); try go_wp2)
    go_ret
    exact ⟨rE, (hX HB.out)⟩
   replace H := ifQ H; obtain ⟨c32b0, H⟩ := H
   replace H := ifQ H; obtain ⟨c33b0, H⟩ := H
   revert H; refine eN (fun c34b0 c34b1 H => ?_) (fun c34b0 c34b1 H => ?_)
   ·obtain rfl := sI H
    have hnbx1 := NBz2.out
    have hncx1 := NBz1.out
    have hczx1 := cZ5 BKz2.out
    have hczx6 := cZ8 BKz1.out
    obtain ⟨adx1, Ax1, cx1, ex1, px1, qx1, hxx1, HCx1, HRx1⟩ := at_T73c HR0_4 HB x6_1
    cases ex1
    go_wp2
    repeat (go_quiet (fail); try go_wp2)
    go_ret
    exact ⟨rE, (hX HB.out)⟩
   replace H := ifQ H; obtain ⟨c35b0, H⟩ := H
   replace H := ifQ H; obtain ⟨c36b0, H⟩ := H
   obtain rfl := sI H
   have hnbx1 := NBz2.out
   have hncx1 := NBz1.out
   have hczx1 := cZ5 BKz2.out
   have hczx6 := cZ8 BKz1.out
   obtain ⟨adx1, Ax1, cx1, ex1, px1, qx1, ⟨hxx1, hxx2, hxx3, hxx4, hxx5, hxx6, hxx7, hxx8, hxx9⟩, HCx1, HRx1⟩ := at_T73c HR0_4 HB x6_1
   cases ex1
   obtain ⟨adx2, Ax2, cx2, ex2, px2, qx2, ⟨hxx10, hxx11, hxx12, hxx13, hxx14, hxx15, hxx16, hxx17, hxx18⟩, HCx2, HRx2⟩ := at_T73c HR0_4 HB x6_1
   obtain rfl : adx1 = adx2 := (by injection ex2)
   have ea_ := Option.some.inj (hxx9.symm.trans hxx18)
   injection ea_ with ea_ en_ ec_
   subst ea_
   subst ec_
   clear en_
   obtain ⟨adx3, ex3, px3, qx3, hxx19⟩ := at_T69c HRz1 HB ((rd_T97 l0_2 a1).f1)
   cases ex3
   go_wp2
   repeat (go_quiet (fail); try go_wp2)
   go_ret
   exact ⟨rE, (hX HB.out)⟩
end Go.Proofs.YtmljebgideecjaaGreat.P2
