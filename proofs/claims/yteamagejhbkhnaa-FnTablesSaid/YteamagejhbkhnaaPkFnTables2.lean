/- A part of the proof of the law FnTables: texts of this seat, merged (words, printed functions of the program, plain lemmas). Conditions: none of its own. -/
import Derived.Laws.CopyOwn
import Derived.Test.YteamagejhbkhnaaPkFnTables1
namespace Go.Proofs.Yteamagejhbkhnaa.P
open Go.Proofs.YteamagejhbkhnaaZ Go.RowKit Go.Proofs.YteamagejhbkhnaaW.PrintWords Go.Proofs.YteamagejhbkhnaaW.PrintLast Go.Proofs.YteamagejhbkhnaaW.PrintMore
attribute [local go_sem] max2_int min2_int max_two min_two max_three min_three max_four min_four   -- for this text's walks alone
set_option linter.unusedVariables false
set_option linter.unusedSimpArgs false
def impl_RowsOk.l0 : Nat → List Int → Int → Int → List Int → Int → Option (Bool)
  | 0, _, _, _, _, _ => none
  | k + 1, x6, x7, x8, x102000, x102001 => if x8 < x7 then (if 0 ≤ x8 then (if x8 < (x6.length : Int) then (if (rd x6 x8) = 0 then (impl_RowsOk.l0 k x6 x7 (wrap64 (x8 + 1)) x102000 x102001) else ((impl_ValOk.f (rd x6 x8)).bind fun t104 => (if t104 = true then (if x8 ≤ (x102000.length : Int) then ((slices_Contains_int_int.f k (x102000.take (x8 : Int).toNat) (rd x6 x8)).bind fun t106 => (if t106 = true then (some false) else (impl_RowsOk.l0 k x6 x7 (wrap64 (x8 + 1)) x102000 x102001))) else (none)) else (some false)))) else (none)) else (none)) else (if (x102000.length : Int) = 4 then ((impl_from.f x102001 0 5).bind fun t102 => (some t102)) else (some false))
def impl_RowsOk.f (k : Nat) (l0_0 : List Int) (a0_1 : Int) : Option (Bool) := impl_RowsOk.l0 k l0_0 (l0_0.length : Int) 0 l0_0 a0_1
set_option maxHeartbeats 8000000 in
set_option maxRecDepth 100000 in
theorem impl_RowsOk.calls (k : Nat) (A0_0 : Option Addr) (c0_0 : Nat) (l0_0 : List Int) (a0_1 : Int) (r : Bool) (w : World) (hr0_0 : Kd.C (Kd.int .i64) w A0_0 l0_0.length l0_0) (hc0_0 : l0_0.length ≤ c0_0) (h : impl_RowsOk.f k l0_0 a0_1 = some r) :
    Calls Try.prog 38 #[.agg #[.slice A0_0 l0_0.length c0_0, .int .i64 a0_1]] w fun e w' => e = .returned (.bool r) ∧ Below w.heap.size w w' := by
  have hu24 := Try.underlying24
  have HR0_0 := Aside0.mk hr0_0
  have HC0_0 := Aside0.mk hc0_0
  clear hr0_0 hc0_0
  have HB := Aside0.mk (Below.refl w.heap.size w)
  have H := h
  unfold impl_RowsOk.f at H
  clear h
  have H' := Aside0.mk H
  clear H
  go_enter Try.func38, Try.ntmps38
  go_wp2_with (first | (refine boxE 1 #[.slice A0_0 l0_0.length c0_0, .int .i64 a0_1] 24 ?_; intro gbz1 hg wz1 hbox hb; have BKz1 := Aside0.mk (hbox); have GWz1 := Aside0.mk (gX' hg (hX HB.out)); have GEz1 := Aside0.mk (gX' hg (hX HB.out)); replace HB := Aside0.mk (below_step (hX HB.out) hb); clear hb hbox hg; obtain ⟨hczz1, hczz2, hfzz1, hfzz2⟩ := cZ2 BKz1.out))
  go_loopg [8] k (fun kq v8 w' => ∃ (x8_1 : Int), v8 = .int .i64 x8_1 ∧ Aside0 (impl_RowsOk.l0 kq l0_0 (l0_0.length : Int) x8_1 l0_0 a0_1 = some r) ∧ Aside0 (kq ≤ k) ∧ Aside0 (w'.heap[gbz1]? = some (.cells #[(.slice A0_0 l0_0.length c0_0), .int .i64 a0_1] 24 (0, 0))) ∧ Aside0 (Below w.heap.size w w'))
  case atStart => exact ⟨(0), rS, H', ⟨Nat.le_refl _⟩, ⟨(bX BKz1.out)⟩, ⟨(hX HB.out)⟩⟩
  case round =>
    clear H'
    try clear p2
    try clear c3
    try clear hczz1
    try clear hczz2
    try clear hfzz1
    try clear hfzz2
    obtain ⟨x8_1, rfl, HA, HKy1, BKz1, HB⟩ := hrel
    cases gk with
    | zero => exact absurd HA.out (by simp [impl_RowsOk.l0])
    | succ k1 =>
      have H := HA.out
      clear HA
      simp only [impl_RowsOk.l0] at H
      by_cases c4 : x8_1 < (l0_0.length : Int)
      · rw [if_pos c4] at H
        have c4b0 := decide_eq_true c4
        clear c4
        replace H := ifP H; obtain ⟨c5, H⟩ := H
        have c5b0 := decide_eq_true c5
        clear c5
        replace H := ifP H; obtain ⟨c6, H⟩ := H
        have c6b0 := decide_eq_true c6
        clear c6
        by_cases c7 : (rd l0_0 x8_1) = 0
        · rw [if_pos c7] at H
          obtain ⟨c7b0, c7b1⟩ := eqT c7
          clear c7
          have H' := Aside0.mk H
          clear H
          have px1 : 0 ≤ (x8_1 : Int) := of_decide_eq_true (by first | (with_reducible assumption) | assumption)
          have qx1 : x8_1 < (l0_0.length : Int) := of_decide_eq_true (by first | (with_reducible assumption) | assumption)
          obtain ⟨adx1, ex1, hxx1⟩ := Kd.at_int HR0_0.out x8_1 px1 qx1
          cases ex1
          replace hxx1 := (HB.out.cell (World.block_lt_of_cell? w _ hxx1)).trans hxx1
          replace px1 := eq_true px1
          replace qx1 := eq_true qx1
          go_wp2
          go_roundg k1
          case measure => have := HKy1.out; omega
          case rel => exact ⟨(wrap64 (x8_1 + 1)), rS, H', ⟨by have := HKy1.out; omega⟩, ⟨(bX BKz1.out)⟩, ⟨(hX HB.out)⟩⟩
        · rw [if_neg c7] at H
          obtain ⟨c7b0, c7b1⟩ := eqF c7
          replace H := bE H; obtain ⟨t104, A8, H⟩ := H
          by_cases c9 : t104 = true
          · subst c9
            rw [if_pos rfl] at H
            have c10b0 := eq_true (of_decide_eq_true (by first | (with_reducible assumption) | assumption) : 0 ≤ x8_1)
            replace H := ifP H; obtain ⟨c11, H⟩ := H
            have c11b0 := eq_true c11
            have c11b1 := decide_eq_true c11
            clear c11
            replace H := bE H; obtain ⟨t106, A12, H⟩ := H
            have px1 : 0 ≤ (x8_1 : Int) := of_decide_eq_true (by first | (with_reducible assumption) | assumption)
            have qx1 : x8_1 < (l0_0.length : Int) := of_decide_eq_true (by first | (with_reducible assumption) | assumption)
            obtain ⟨adx1, ex1, hxx1⟩ := Kd.at_int HR0_0.out x8_1 px1 qx1
            cases ex1
            replace hxx1 := (HB.out.cell (World.block_lt_of_cell? w _ hxx1)).trans hxx1
            replace px1 := eq_true px1
            replace qx1 := eq_true qx1
            go_wp2_with (first | (go_at_call 91; (with_reducible refine (impl_ValOk.calls (rd l0_0 x8_1) true _ A8.out).mono ?_); rintro e w' ⟨rfl, ⟨nd, rfl⟩⟩; obtain ⟨hczx1, hczx2, hfzx1, hfzx2⟩ := cZ2 BKz1.out; obtain ⟨ix1, hix1, _, hszx1, _⟩ := info_parts info3; obtain ⟨hcutx1, hAx1, hCx1⟩ := print_take_of (P := Try.prog) (Value.int .i64) 0 22 3 .i64 Try.underlying22 hix1 hszx1 (some adx1) c0_0 l0_0 x8_1 (of_decide_eq_true (by first | (with_reducible assumption) | assumption)) (of_decide_eq_true (by first | (with_reducible assumption) | assumption)) HC0_0.out; have HRx1 := Aside0.mk (Kd.C_of_reads (h1 := fun _ => rfl) (hAx1 _ (Kd.reads_of_C HR0_0.out))); have HCx1 := Aside0.mk hCx1; clear hAx1 hCx1 hix1 hszx1; refine Stop.out ?_))
            refine ⟨?_⟩
            by_cases c13 : t106 = true
            · subst c13
              rw [if_pos rfl] at H
              obtain rfl := Option.some.inj H
              go_wp2_with (first | (go_at_call 92; refine calls_of_args (args' := #[.slice (some adx1) (l0_0.take (x8_1 : Int).toNat).length c0_0, .int .i64 (rd l0_0 x8_1)]) (by first | (rw [show (l0_0.take (x8_1 : Int).toNat).length = x8_1.toNat from (by rw [List.length_take]; have h_ : (x8_1 : Int) ≤ (l0_0.length : Int) := of_decide_eq_true (by first | (with_reducible assumption) | assumption); omega)] <;> rfl) | rfl) ?_; (with_reducible refine (slices_Contains_int_int.calls k1 _ _ (l0_0.take (x8_1 : Int).toNat) (rd l0_0 x8_1) true _ ?side1 ?side2 A12.out).mono ?_); (case side1 => repeat (first | exact (Kd.C_below HRx1.out (hX HB.out)) | (with_reducible refine Kd.C_alloc ?_ _) | (with_reducible refine Kd.C_drewN ?_ _) | (with_reducible refine Kd.C_drew ?_))); (case side2 => exact HCx1.out); rintro e w' ⟨rfl, ⟨nd, rfl⟩⟩))
              go_ret
              exact ⟨rE, (hX HB.out)⟩
            · replace c13 := Bool.eq_false_iff.mpr c13
              subst c13
              rw [if_neg nft] at H
              have H' := Aside0.mk H
              clear H
              go_wp2_with (first | (go_at_call 92; refine calls_of_args (args' := #[.slice (some adx1) (l0_0.take (x8_1 : Int).toNat).length c0_0, .int .i64 (rd l0_0 x8_1)]) (by first | (rw [show (l0_0.take (x8_1 : Int).toNat).length = x8_1.toNat from (by rw [List.length_take]; have h_ : (x8_1 : Int) ≤ (l0_0.length : Int) := of_decide_eq_true (by first | (with_reducible assumption) | assumption); omega)] <;> rfl) | rfl) ?_; (with_reducible refine (slices_Contains_int_int.calls k1 _ _ (l0_0.take (x8_1 : Int).toNat) (rd l0_0 x8_1) false _ ?side1 ?side2 A12.out).mono ?_); (case side1 => repeat (first | exact (Kd.C_below HRx1.out (hX HB.out)) | (with_reducible refine Kd.C_alloc ?_ _) | (with_reducible refine Kd.C_drewN ?_ _) | (with_reducible refine Kd.C_drew ?_))); (case side2 => exact HCx1.out); rintro e w' ⟨rfl, ⟨nd, rfl⟩⟩))
              go_roundg k1
              case measure => have := HKy1.out; omega
              case rel => exact ⟨(wrap64 (x8_1 + 1)), rS, H', ⟨by have := HKy1.out; omega⟩, ⟨(bX BKz1.out)⟩, ⟨(hX HB.out)⟩⟩
          · replace c9 := Bool.eq_false_iff.mpr c9
            subst c9
            rw [if_neg nft] at H
            obtain rfl := Option.some.inj H
            have px1 : 0 ≤ (x8_1 : Int) := of_decide_eq_true (by first | (with_reducible assumption) | assumption)
            have qx1 : x8_1 < (l0_0.length : Int) := of_decide_eq_true (by first | (with_reducible assumption) | assumption)
            obtain ⟨adx1, ex1, hxx1⟩ := Kd.at_int HR0_0.out x8_1 px1 qx1
            cases ex1
            replace hxx1 := (HB.out.cell (World.block_lt_of_cell? w _ hxx1)).trans hxx1
            replace px1 := eq_true px1
            replace qx1 := eq_true qx1
            go_wp2_with (first | (go_at_call 91; (with_reducible refine (impl_ValOk.calls (rd l0_0 x8_1) false _ A8.out).mono ?_); rintro e w' ⟨rfl, ⟨nd, rfl⟩⟩))
            go_ret
            exact ⟨rE, (hX HB.out)⟩
      · rw [if_neg c4] at H
        have c4b0 := decide_eq_false c4
        clear c4
        by_cases c18 : (l0_0.length : Int) = 4
        · rw [if_pos c18] at H
          obtain ⟨c18b0, c18b1⟩ := eqT c18
          clear c18
          replace H := bE H; obtain ⟨t102, A19, H⟩ := H
          obtain rfl := Option.some.inj H
          obtain ⟨hczx1, hczx2, hfzx1, hfzx2⟩ := cZ2 BKz1.out
          go_wp2_with (first | (go_at_call 93; (with_reducible refine (impl_from.calls a0_1 0 5 t102 _ A19.out).mono ?_); rintro e w' ⟨rfl, ⟨nd, rfl⟩⟩))
          go_ret
          exact ⟨rE, (hX HB.out)⟩
        · rw [if_neg c18] at H
          obtain ⟨c18b0, c18b1⟩ := eqF c18
          obtain rfl := Option.some.inj H
          obtain ⟨hczx1, hczx2, hfzx1, hfzx2⟩ := cZ2 BKz1.out
          go_wp2
          go_ret
          exact ⟨rE, (hX HB.out)⟩
end Go.Proofs.Yteamagejhbkhnaa.P
namespace Go.Proofs.Yteamagejhbkhnaa.P
open Go.Proofs.YteamagejhbkhnaaZ Go.RowKit Go.Proofs.YteamagejhbkhnaaW.PrintWords Go.Proofs.YteamagejhbkhnaaW.PrintLast Go.Proofs.YteamagejhbkhnaaW.PrintMore
attribute [local go_sem] max2_int min2_int max_two min_two max_three min_three max_four min_four   -- for this text's walks alone
set_option linter.unusedVariables false
set_option linter.unusedSimpArgs false
def impl_isClass.f (a0 : Int) : Option (Bool) := (impl_from.f a0 0 2).bind fun t101 => (some t101)
set_option maxHeartbeats 8000000 in
set_option maxRecDepth 100000 in
theorem impl_isClass.calls (a0 : Int) (r : Bool) (w : World) (h : impl_isClass.f a0 = some r) :
    Calls Try.prog 100 #[.int .i64 a0] w fun e w' => e = .returned (.bool r) ∧ Drawn0 w w' := by
  have H := h
  unfold impl_isClass.f at H
  clear h
  replace H := bE H; obtain ⟨t101, A2, H⟩ := H
  obtain rfl := Option.some.inj H
  go_enter Try.func100, Try.ntmps100
  go_wp2_with (first | (refine goesM 93 4 Try.func93 #[.int .i64 a0, .int .i64 0, .int .i64 2] ?_; refine (impl_from.calls a0 0 2 t101 _ A2.out).mono ?_; rintro e w' ⟨rfl, ⟨nd, rfl⟩⟩; refine ⟨_, rfl, ?_⟩))
  go_ret
  exact ⟨by first | rfl | (simp; done) | (simp [*]; done), dX⟩
end Go.Proofs.Yteamagejhbkhnaa.P
namespace Go.Proofs.Yteamagejhbkhnaa.P
open Go.Proofs.YteamagejhbkhnaaZ Go.RowKit Go.Proofs.YteamagejhbkhnaaW.PrintWords Go.Proofs.YteamagejhbkhnaaW.PrintLast Go.Proofs.YteamagejhbkhnaaW.PrintMore
attribute [local go_sem] max2_int min2_int max_two min_two max_three min_three max_four min_four   -- for this text's walks alone
set_option linter.unusedVariables false
set_option linter.unusedSimpArgs false
def impl_placed.f (a0 : Bool) (a1 : Int) : Option (Int) := if a0 = true then (some a1) else (some (-1))
set_option maxHeartbeats 8000000 in
set_option maxRecDepth 100000 in
theorem impl_placed.calls (a0 : Bool) (a1 : Int) (r : Int) (w : World) (h : impl_placed.f a0 a1 = some r) :
    Calls Try.prog 99 #[.bool a0, .int .i64 a1] w fun e w' => e = .returned (.int .i64 r) ∧ Drawn0 w w' := by
  have H := h
  unfold impl_placed.f at H
  clear h
  go_enter Try.func99, Try.ntmps99
  by_cases c3 : a0 = true
  · subst c3
    rw [if_pos rfl] at H
    obtain rfl := Option.some.inj H
    go_wp2
    go_ret
    exact ⟨by first | rfl | (simp; done) | (simp [*]; done), dX⟩
  · replace c3 := Bool.eq_false_iff.mpr c3
    subst c3
    rw [if_neg nft] at H
    obtain rfl := Option.some.inj H
    go_wp2
    go_ret
    exact ⟨by first | rfl | (simp; done) | (simp [*]; done), dX⟩
end Go.Proofs.Yteamagejhbkhnaa.P
namespace Go.Proofs.Yteamagejhbkhnaa.P
open Go.Proofs.YteamagejhbkhnaaZ Go.RowKit Go.Proofs.YteamagejhbkhnaaW.PrintWords Go.Proofs.YteamagejhbkhnaaW.PrintLast Go.Proofs.YteamagejhbkhnaaW.PrintMore
attribute [local go_sem] max2_int min2_int max_two min_two max_three min_three max_four min_four   -- for this text's walks alone
set_option linter.unusedVariables false
set_option linter.unusedSimpArgs false
def impl_CountAt.f (a0 : Int) : Option (Int) := (impl_isClass.f a0).bind fun t101 => ((impl_placed.f t101 (wrap64 (10 + a0))).bind fun t102 => (some t102))
set_option maxHeartbeats 8000000 in
set_option maxRecDepth 100000 in
theorem impl_CountAt.calls (a0 : Int) (r : Int) (w : World) (h : impl_CountAt.f a0 = some r) :
    Calls Try.prog 46 #[.int .i64 a0] w fun e w' => e = .returned (.int .i64 r) ∧ Drawn0 w w' := by
  have H := h
  unfold impl_CountAt.f at H
  clear h
  replace H := bE H; obtain ⟨t101, A2, H⟩ := H
  replace H := bE H; obtain ⟨t102, A3, H⟩ := H
  obtain rfl := Option.some.inj H
  go_enter Try.func46, Try.ntmps46
  go_wp2_with (first | (refine goesM 100 4 Try.func100 #[.int .i64 a0] ?_; refine (impl_isClass.calls a0 t101 _ A2.out).mono ?_; rintro e w' ⟨rfl, ⟨nd, rfl⟩⟩; refine ⟨_, rfl, ?_⟩) | (refine goesM 99 7 Try.func99 #[.bool t101, .int .i64 (wrap64 (10 + a0))] ?_; refine (impl_placed.calls t101 (wrap64 (10 + a0)) t102 _ A3.out).mono ?_; rintro e w' ⟨rfl, ⟨nd, rfl⟩⟩; refine ⟨_, rfl, ?_⟩))
  go_ret
  exact ⟨by first | rfl | (simp; done) | (simp [*]; done), dX⟩
end Go.Proofs.Yteamagejhbkhnaa.P
namespace Go.Proofs.Yteamagejhbkhnaa.P
open Go.Proofs.YteamagejhbkhnaaZ Go.RowKit Go.Proofs.YteamagejhbkhnaaW.PrintWords Go.Proofs.YteamagejhbkhnaaW.PrintLast Go.Proofs.YteamagejhbkhnaaW.PrintMore
attribute [local go_sem] max2_int min2_int max_two min_two max_three min_three max_four min_four   -- for this text's walks alone
set_option linter.unusedVariables false
set_option linter.unusedSimpArgs false
def impl_OwnerAt.f (a0 : Int) : Option (Int) := (impl_ValOk.f a0).bind fun t101 => ((impl_placed.f t101 (wrap64 (3 + a0))).bind fun t102 => (some t102))
set_option maxHeartbeats 8000000 in
set_option maxRecDepth 100000 in
theorem impl_OwnerAt.calls (a0 : Int) (r : Int) (w : World) (h : impl_OwnerAt.f a0 = some r) :
    Calls Try.prog 52 #[.int .i64 a0] w fun e w' => e = .returned (.int .i64 r) ∧ Drawn0 w w' := by
  have H := h
  unfold impl_OwnerAt.f at H
  clear h
  replace H := bE H; obtain ⟨t101, A2, H⟩ := H
  replace H := bE H; obtain ⟨t102, A3, H⟩ := H
  obtain rfl := Option.some.inj H
  go_enter Try.func52, Try.ntmps52
  go_wp2_with (first | (refine goesM 91 4 Try.func91 #[.int .i64 a0] ?_; refine (impl_ValOk.calls a0 t101 _ A2.out).mono ?_; rintro e w' ⟨rfl, ⟨nd, rfl⟩⟩; refine ⟨_, rfl, ?_⟩) | (refine goesM 99 7 Try.func99 #[.bool t101, .int .i64 (wrap64 (3 + a0))] ?_; refine (impl_placed.calls t101 (wrap64 (3 + a0)) t102 _ A3.out).mono ?_; rintro e w' ⟨rfl, ⟨nd, rfl⟩⟩; refine ⟨_, rfl, ?_⟩))
  go_ret
  exact ⟨by first | rfl | (simp; done) | (simp [*]; done), dX⟩
end Go.Proofs.Yteamagejhbkhnaa.P
namespace Go.Proofs.Yteamagejhbkhnaa.P
open Go.Proofs.YteamagejhbkhnaaZ Go.RowKit Go.Proofs.YteamagejhbkhnaaW.PrintWords Go.Proofs.YteamagejhbkhnaaW.PrintLast Go.Proofs.YteamagejhbkhnaaW.PrintMore
attribute [local go_sem] max2_int min2_int max_two min_two max_three min_three max_four min_four   -- for this text's walks alone
set_option linter.unusedVariables false
set_option linter.unusedSimpArgs false
def impl_ViaAt.f (a0 : Int) : Option (Int) := (impl_ValOk.f a0).bind fun t101 => ((impl_StateAt.f).bind fun t102 => ((impl_placed.f t101 (wrap64 (t102 + a0))).bind fun t103 => (some t103)))
set_option maxHeartbeats 8000000 in
set_option maxRecDepth 100000 in
theorem impl_ViaAt.calls (a0 : Int) (r : Int) (w : World) (h : impl_ViaAt.f a0 = some r) :
    Calls Try.prog 84 #[.int .i64 a0] w fun e w' => e = .returned (.int .i64 r) ∧ Drawn0 w w' := by
  have H := h
  unfold impl_ViaAt.f at H
  clear h
  replace H := bE H; obtain ⟨t101, A2, H⟩ := H
  replace H := bE H; obtain ⟨t102, A3, H⟩ := H
  replace H := bE H; obtain ⟨t103, A4, H⟩ := H
  obtain rfl := Option.some.inj H
  go_enter Try.func84, Try.ntmps84
  go_wp2_with (first | (refine goesM 91 4 Try.func91 #[.int .i64 a0] ?_; refine (impl_ValOk.calls a0 t101 _ A2.out).mono ?_; rintro e w' ⟨rfl, ⟨nd, rfl⟩⟩; refine ⟨_, rfl, ?_⟩) | (refine goesM 76 5 Try.func76 #[] ?_; refine (impl_StateAt.calls  t102 _ A3.out).mono ?_; rintro e w' ⟨rfl, ⟨nd, rfl⟩⟩; refine ⟨_, rfl, ?_⟩) | (refine goesM 99 8 Try.func99 #[.bool t101, .int .i64 (wrap64 (t102 + a0))] ?_; refine (impl_placed.calls t101 (wrap64 (t102 + a0)) t103 _ A4.out).mono ?_; rintro e w' ⟨rfl, ⟨nd, rfl⟩⟩; refine ⟨_, rfl, ?_⟩))
  go_ret
  exact ⟨by first | rfl | (simp; done) | (simp [*]; done), dX⟩
end Go.Proofs.Yteamagejhbkhnaa.P
namespace Go.Proofs.Yteamagejhbkhnaa.P
open Go.Proofs.YteamagejhbkhnaaZ Go.RowKit Go.Proofs.YteamagejhbkhnaaW.PrintWords Go.Proofs.YteamagejhbkhnaaW.PrintLast Go.Proofs.YteamagejhbkhnaaW.PrintMore
attribute [local go_sem] max2_int min2_int max_two min_two max_three min_three max_four min_four   -- for this text's walks alone
set_option linter.unusedVariables false
set_option linter.unusedSimpArgs false
def impl_ClassOf.f (a0 : Int) : Option (Int) := (impl_ValOk.f a0).bind fun t101 => (if t101 = true then (some (Int.tmod a0 3)) else (some (-1)))
set_option maxHeartbeats 8000000 in
set_option maxRecDepth 100000 in
theorem impl_ClassOf.calls (a0 : Int) (r : Int) (w : World) (h : impl_ClassOf.f a0 = some r) :
    Calls Try.prog 87 #[.int .i64 a0] w fun e w' => e = .returned (.int .i64 r) ∧ Drawn0 w w' := by
  have H := h
  unfold impl_ClassOf.f at H
  clear h
  replace H := bE H; obtain ⟨t101, A2, H⟩ := H
  go_enter Try.func87, Try.ntmps87
  by_cases c3 : t101 = true
  · subst c3
    rw [if_pos rfl] at H
    obtain rfl := Option.some.inj H
    go_wp2_with (first | (refine goesM 91 4 Try.func91 #[.int .i64 a0] ?_; refine (impl_ValOk.calls a0 true _ A2.out).mono ?_; rintro e w' ⟨rfl, ⟨nd, rfl⟩⟩; refine ⟨_, rfl, ?_⟩))
    go_ret
    exact ⟨by first | rfl | (simp; done) | (simp [*]; done), dX⟩
  · replace c3 := Bool.eq_false_iff.mpr c3
    subst c3
    rw [if_neg nft] at H
    obtain rfl := Option.some.inj H
    go_wp2_with (first | (refine goesM 91 4 Try.func91 #[.int .i64 a0] ?_; refine (impl_ValOk.calls a0 false _ A2.out).mono ?_; rintro e w' ⟨rfl, ⟨nd, rfl⟩⟩; refine ⟨_, rfl, ?_⟩))
    go_ret
    exact ⟨by first | rfl | (simp; done) | (simp [*]; done), dX⟩
end Go.Proofs.Yteamagejhbkhnaa.P
namespace Go.Proofs.YteamagejhbkhnaaZ
open Go.RowKit Go.Proofs.YteamagejhbkhnaaW.PrintWords Go.Proofs.YteamagejhbkhnaaW.PrintLast
def CopyRuns (P : Program) (d s : Value) (elem : TypeId) (w : World) (K : Ending → World → Prop) : Prop :=
  ∀ (ops : Array Oper) (rest : List Oper) (o : Oper) (a : Act) (Q : Exit → Act → World → Prop) (x y : Operand) (dT sT : TypeId), o.guard = none → o.op = .call { callee := .builtin .copy, args := #[x, y], argTypes := #[dT, sT] } →
    P.underlying dT = some (.slice elem) → (P.info? elem).map (·.size) = some 1 → a.eval x = d → a.eval y = s → (∀ v w', K (.returned v) w' → wpList P ops Q rest (a.put o.dst v) w') → wpList P ops Q (o :: rest) a w
theorem CopyRuns.mono {P : Program} {d s : Value} {elem : TypeId} {w : World} {K K' : Ending → World → Prop} (h : CopyRuns P d s elem w K) (hm : ∀ e w', K e w' → K' e w') : CopyRuns P d s elem w K' :=
  fun ops rest o a Q x y dT sT h1 h2 h3 h4 h5 h6 h7 => h ops rest o a Q x y dT sT h1 h2 h3 h4 h5 h6 (fun v w' hk => h7 v w' (hm _ _ hk))
theorem goesCopy_ {P : Program} {ops : Array Oper} {Q : Exit → Act → World → Prop} {rest : List Oper} {oi : Oper} {a : Act} {w : World} (N : Option Tmp) (hd : oi.dst = N) (hg : oi.guard = none) {dT sT elem : TypeId} (hu : P.underlying dT = some (.slice elem)) (hsz : (P.info? elem).map (·.size) = some 1) {x y : Operand} (d s : Value)
    (hop : oi.op = .call { callee := .builtin .copy, args := #[x, y], argTypes := #[dT, sT] }) (hx : a.eval x = d) (hy : a.eval y = s)
    (h : CopyRuns P d s elem w fun e w' => ∃ v, e = .returned v ∧ wpList P ops Q rest (a.put N v) w') : wpList P ops Q (oi :: rest) a w := by
  refine h ops rest oi a Q x y dT sT hg hop hu hsz hx hy fun v w' ⟨v', e, hk⟩ => ?_
  injection e with e
  subst e
  subst hd
  exact hk
def copy_int.f (l0 l1 : List Int) : Option (Int × List Int) := some (((Nat.min l1.length l0.length : Nat) : Int), l1.take (Nat.min l1.length l0.length) ++ l0.drop (Nat.min l1.length l0.length))
theorem copy_int.calls {P : Program} (P0_ : Nat → Prop) (u9000_ : Value) (l0 : List Int) (A1 : Option Addr) (c1 : Nat) (l1 : List Int) (r1 : Int) (r2 : List Int) (w0 w : World) (hB : Below w0.heap.size w0 w) (ho0 : Kd.R (Kd.int .i64) 3 w w0.heap.size P0_ u9000_ l0)
    (hr1 : ∀ W_, Kept w W_ (fun k_ => P0_ k_) → Kd.C (Kd.int .i64) W_ A1 l1.length l1) (_hc1 : l1.length ≤ c1) (h : copy_int.f l0 l1 = some (r1, r2)) :
    CopyRuns P u9000_ (.slice A1 l1.length c1) 3 w fun e w' => e = .returned (.int .i64 r1) ∧ Kd.R (Kd.int .i64) 3 w' w0.heap.size (fun k_ => (P0_ k_ ∨ w.heap.size ≤ k_)) u9000_ r2 ∧ Below w0.heap.size w0 w' ∧ Kept w w' (fun k_ => P0_ k_) := by
  have h' : (((Nat.min l1.length l0.length : Nat) : Int), l1.take (Nat.min l1.length l0.length) ++ l0.drop (Nat.min l1.length l0.length)) = (r1, r2) := Option.some.inj h
  have hr1e : ((Nat.min l1.length l0.length : Nat) : Int) = r1 := congrArg Prod.fst h'
  have hr2e : l1.take (Nat.min l1.length l0.length) ++ l0.drop (Nat.min l1.length l0.length) = r2 := congrArg Prod.snd h'
  intro ops rest o a Q x y dT sT hg hop hu hsz hx hy hK
  have hC := hr1 w (Kept.refl _ _)
  have ho := Kd.own_of_R ho0
  by_cases hm : Nat.min l1.length l0.length = 0
  · have e2 : r2 = l0 := by rw [← hr2e, hm]; simp
    have e1 : r1 = 0 := by rw [← hr1e, hm]; rfl
    obtain ⟨dp, dc, hv⟩ : ∃ dp dc, u9000_ = .slice dp l0.length dc := by
      rcases ho.2 with ⟨hv, hn⟩ | ⟨g, cap, cur, hv, _⟩
      · exact ⟨none, 0, by rw [hv, hn]⟩
      · exact ⟨_, _, hv⟩
    refine wpList_copy_nothing hg x y dT sT hop 3 hu hsz dp A1 l0.length dc l1.length c1 (by rw [hx, hv]) hy hm ?_
    refine hK (goInt 0) w ⟨by rw [e1]; rfl, ?_, hB, Kept.refl _ _⟩
    rw [e2]
    exact Kd.R_mono ho0 (fun k_ hk => .inl hk)
  · have hm1 : 0 < l1.length := by
      apply Classical.byContradiction
      intro hn
      exact hm (by rw [show l1.length = 0 by omega]; simp)
    rcases ho.2 with ⟨hv, hn⟩ | ⟨g, cap, cur, hv, hbase, hgc, hnc, hcap, hcs, htake⟩
    · exact absurd (by rw [hn]; simp) hm
    · obtain ⟨ad, rfl, hc⟩ := hC.2.2 hm1
      have hcell : ∀ (j : Nat) (z : Int), l1[j]? = some z → w.cell? (ad.add j) = some (.int .i64 z) := by
        intro j z hj
        obtain ⟨c, _, hKc, hu_⟩ := hc j z hj
        have hK' : c = [.int .i64 z] := hKc
        have := hu_ 0 (.int .i64 z) (by rw [hK']; rfl)
        simpa [Kd.int, Kd.scalar] using this
      have hml0 : Nat.min l1.length l0.length ≤ l0.length := Nat.min_le_right _ _
      have hml1 : Nat.min l1.length l0.length ≤ l1.length := Nat.min_le_left _ _
      have hcl : ((l1.take (Nat.min l1.length l0.length)).map (Value.int .i64)).length = Nat.min l1.length l0.length := by
        rw [List.length_map, List.length_take]; exact Nat.min_eq_left hml1
      refine wpList_copy_own hg x y dT sT hop 3 hu hsz g 0 l0.length cap ad l1.length c1 (by rw [hx, hv]) hy cur 3 hgc ((l1.take (Nat.min l1.length l0.length)).map (Value.int .i64)) hcl ?_ ?_ ?_ ?_
      · intro j v hj
        rw [List.getElem?_map] at hj
        obtain ⟨z, hz, rfl⟩ := Option.map_eq_some_iff.mp hj
        rw [List.getElem?_take] at hz
        split at hz
        · exact hcell j z hz
        · cases hz
      · rw [hcl]; omega
      · intro v hv
        obtain ⟨z, _, rfl⟩ := List.mem_map.mp hv
        rfl
      · rw [hcl]
        have hr2l : r2.length = l0.length := by
          rw [← hr2e, List.length_append, List.length_take, List.length_drop]
          have := Nat.min_eq_left hml1
          omega
        refine hK (goInt _) _ ⟨by rw [← hr1e]; rfl, ?_, below_setRow hB hbase _, ?_, ?_⟩
        · refine Kd.R_of_own (enc := Value.int .i64) (h1 := fun _ => rfl) ⟨by rw [Nat.mul_one, encs_length], Or.inr ⟨g, cap, _, ?_, hbase, setRow_heap w g cur _ 3 (0, 0) hgc, ?_, hcap, ?_, ?_⟩⟩ ?_
          · rw [hr2l]; exact hv
          · rw [hr2l]; exact hnc
          · simp only [List.size_toArray, List.length_append, List.length_take, List.length_drop, hcl, Array.length_toList]
            omega
          · have htake' : cur.toList.take l0.length = l0.map (Value.int .i64) := by rw [Nat.mul_one] at htake; exact htake
            have e : encs (Value.int .i64) r2 = r2.map (Value.int .i64) := rfl
            rw [hr2l, Nat.mul_one, e, ← hr2e, List.map_append, List.map_drop, ← htake']
            rw [List.take_zero, List.nil_append, Nat.zero_add, List.take_append, hcl, List.drop_take]
            congr 1
            rw [List.take_of_length_le (by rw [hcl]; exact hml0)]
          · intro k hk
            exact Or.inl (ho0.1 k hk)
        · rw [setRow_size]; exact Nat.le_refl _
        · intro i hi hn
          refine setRow_other w g i _ (fun e => hn ?_)
          rw [e]
          exact ho0.1 g (by rw [hv]; rfl)
end Go.Proofs.YteamagejhbkhnaaZ
namespace Go.Proofs.Yteamagejhbkhnaa.P
open Go.Proofs.YteamagejhbkhnaaZ Go.RowKit Go.Proofs.YteamagejhbkhnaaW.PrintWords Go.Proofs.YteamagejhbkhnaaW.PrintLast Go.Proofs.YteamagejhbkhnaaW.PrintMore
attribute [local go_sem] max2_int min2_int max_two min_two max_three min_three max_four min_four   -- for this text's walks alone
set_option linter.unusedVariables false
set_option linter.unusedSimpArgs false
def impl_WordsOf.l0 : Nat → List Int → List Int → Int → Int → List Int → Int → Option (List Int)
  | 0, _, _, _, _, _, _ => none
  | k + 1, x3, x15, x16, x17, x102000, x102001 => if x17 < x16 then (if 0 ≤ x17 then (if x17 < (x15.length : Int) then (if (rd x15 x17) = 0 then (impl_WordsOf.l0 k x3 x15 x16 (wrap64 (x17 + 1)) x102000 x102001) else ((impl_OwnerAt.f (rd x15 x17)).bind fun t111 => (if 0 ≤ t111 then (if t111 < (x3.length : Int) then ((some (x3.set (t111 : Int).toNat (wrap64 (x17 + 1)) : List Int)).bind fun y112 => ((impl_ClassOf.f (rd x15 x17)).bind fun t113 => ((impl_CountAt.f t113).bind fun t114 => (if 0 ≤ t114 then (if t114 < (x3.length : Int) then ((some (y112.set (t114 : Int).toNat (wrap64 ((rd y112 t114) + 1)) : List Int)).bind fun y116 => (if x17 < (wrap64 (x102001 - 1)) then ((impl_ViaAt.f (rd x15 x17)).bind fun t117 => (if 0 ≤ t117 then (if t117 < (x3.length : Int) then (impl_WordsOf.l0 k (y116.set (t117 : Int).toNat (wrap64 (x17 + 1))) x15 x16 (wrap64 (x17 + 1)) x102000 x102001) else (none)) else (none))) else (impl_WordsOf.l0 k y116 x15 x16 (wrap64 (x17 + 1)) x102000 x102001))) else (none)) else (none))))) else (none)) else (none)))) else (none)) else (none)) else ((impl_StateAt.f).bind fun t108 => (if 0 ≤ t108 then (if t108 < (x3.length : Int) then (some (x3.set (t108 : Int).toNat x102001)) else (none)) else (none)))
def impl_WordsOf.f (k : Nat) (l0_0 : List Int) (a0_1 : Int) : Option (List Int) := (impl_RowsOk.f k l0_0 a0_1).bind fun t102 => (if t102 = true then (if 20 ≤ 35184372088832 then ((Go.Proofs.YteamagejhbkhnaaZ.copy_int.f (List.replicate 20 0) l0_0).bind fun bt106 => (impl_WordsOf.l0 k bt106.2 l0_0 (l0_0.length : Int) 0 l0_0 a0_1)) else (none)) else (some ([] : List Int)))
set_option maxHeartbeats 8000000 in
set_option maxRecDepth 100000 in
theorem impl_WordsOf.calls (k : Nat) (A0_0 : Option Addr) (c0_0 : Nat) (l0_0 : List Int) (a0_1 : Int) (r : List Int) (w : World) (hr0_0 : Kd.C (Kd.int .i64) w A0_0 l0_0.length l0_0) (hc0_0 : l0_0.length ≤ c0_0) (h : impl_WordsOf.f k l0_0 a0_1 = some r) :
    Calls Try.prog 32 #[.agg #[.slice A0_0 l0_0.length c0_0, .int .i64 a0_1]] w fun e w' => ∃ v0_ : Value, e = .returned (v0_) ∧ Kd.R (Kd.int .i64) 3 w' w.heap.size (fun _ => True) v0_ r ∧ Below w.heap.size w w' := by
  have hu24 := Try.underlying24
  have HR0_0 := Aside0.mk hr0_0
  have HC0_0 := Aside0.mk hc0_0
  clear hr0_0 hc0_0
  have HB := Aside0.mk (Below.refl w.heap.size w)
  have H := h
  unfold impl_WordsOf.f at H
  clear h
  replace H := bE H; obtain ⟨t102, A2, H⟩ := H
  go_enter Try.func32, Try.ntmps32
  go_wp2_with (first | (refine boxE 1 #[.slice A0_0 l0_0.length c0_0, .int .i64 a0_1] 24 ?_; intro gbz1 hg wz1 hbox hb; have BKz1 := Aside0.mk (hbox); have GWz1 := Aside0.mk (gX' hg (hX HB.out)); have GEz1 := Aside0.mk (gX' hg (hX HB.out)); replace HB := Aside0.mk (below_step (hX HB.out) hb); clear hb hbox hg; obtain ⟨hczz1, hczz2, hfzz1, hfzz2⟩ := cZ2 BKz1.out; refine Stop.out ?_))
  refine ⟨?_⟩
  by_cases c3 : t102 = true
  · subst c3
    rw [if_pos rfl] at H
    replace H := ifP H; obtain ⟨c4, H⟩ := H
    have c4b0 := eq_true c4
    have c4b1 := decide_eq_true c4
    clear c4
    obtain ⟨y103, hy103⟩ : ∃ y_ : List Int, y_ = (List.replicate 20 0) := ⟨_, rfl⟩
    replace H : ((Go.Proofs.YteamagejhbkhnaaZ.copy_int.f y103 l0_0).bind fun bt106 => (impl_WordsOf.l0 k bt106.2 l0_0 (l0_0.length : Int) 0 l0_0 a0_1)) = some r := yH H hy103
    have Ny103 := Aside0.mk hy103
    clear hy103
    replace H := bE H; obtain ⟨⟨t106, t107⟩, A5, H⟩ := H
    try dsimp only at H
    have H' := Aside0.mk H
    clear H
    go_wp2_with (first | (refine goesM 38 7 Try.func38 #[.agg #[.slice A0_0 l0_0.length c0_0, .int .i64 a0_1]] ?_; refine (impl_RowsOk.calls k _ _ l0_0 a0_1 true _ (cC HR0_0.out HB.out) HC0_0.out A2.out).mono ?_; rintro e wz2 ⟨rfl, hb⟩; refine ⟨_, rfl, ?_⟩; replace BKz1 := Aside0.mk (blk_below (bX BKz1.out) hb); replace HB := Aside0.mk (below_step (hX HB.out) hb); clear hb) | ((with_reducible refine gate_dst (N := 9) rfl ?_); refine Kd.R_make (Kd.int .i64) _ 3 rfl (N := 9) rfl 22 _ _ rfl 20 rfl rfl Try.underlying22 (.int .i64 0) 8 info3 rfl (by decide) (by omega) 0 (ok := fun _ => True) (okp := fun _ => True) rfl (fun _ hk => hk) trivial (by omega) (by omega) (Below.refl _ _) (Nat.le_refl _) ?_; intro vz1 wz3 hoz1 hb hg_ hnew_; clear hg_ hnew_; (first | rw [← Ny103.out] at hoz1 | (simp only [Int.reduceToNat] at hoz1; rw [← Ny103.out] at hoz1)); have HOz1 := Aside0.mk (Kd.R_lower hoz1 (below_size (hX HB.out))); replace BKz1 := Aside0.mk (blk_below (bX BKz1.out) hb); replace HB := Aside0.mk (below_step (hX HB.out) hb); clear hb hoz1; obtain ⟨hczz3, hczz4, hfzz3, hfzz4⟩ := cZ2 BKz1.out; obtain ⟨Aoz1, coz1, eoz1⟩ := Kd.R_slice HOz1.out; subst eoz1) | ((with_reducible refine gate_builtin (b := .copy) rfl ?_); refine Go.Proofs.YteamagejhbkhnaaZ.goesCopy_ (some 13) rfl rfl Try.underlying22 (by kernel_rfl) (.slice Aoz1 y103.length coz1) (.slice A0_0 l0_0.length c0_0) rfl rfl rfl ?_; (with_reducible refine (Go.Proofs.YteamagejhbkhnaaZ.copy_int.calls (fun k_ => some k_ = (.slice Aoz1 y103.length coz1 : Value).ownBlock) (.slice Aoz1 y103.length coz1) y103 _ _ l0_0 t106 t107 w _ ?side1 ?side2 ?side3 ?side4 A5.out).mono ?_); (case side1 => repeat (first | (with_reducible first | exact HB.out | apply below_alloc | apply pw_below_drewN | apply below_drew1 | refine below_set ?_ GEz1.out) | exact HB.out)); (case side2 => exact Kd.R_tight rfl HOz1.out); (case side3 => exact Kd.C_kept_came (Kd.heap_int .i64) HR0_0.out (hX HB.out) (fun k_ hs_ => (fun e_ => Kd.R_base HOz1.out k_ e_.symm) hs_)); (case side4 => exact HC0_0.out); rintro e wz4 ⟨rfl, hyz1, hb, hkp⟩; refine ⟨_, rfl, ?_⟩; replace BKz1 := Aside0.mk (blk_kept (bX BKz1.out) hkp (fun hs_ => (fun e_ => (Kd.R_ne HOz1.out BKz1.out (by decide)) e_) hs_)); replace HOz1 := Aside0.mk (Kd.R_reok rfl hyz1 (fun k_ e_ => HOz1.out.1 k_ e_)); replace HB := Aside0.mk (hb); clear hb hkp hyz1; obtain ⟨hczz5, hczz6, hfzz5, hfzz6⟩ := cZ2 BKz1.out))
    go_loopg [17] k (fun kq v17 w' => ∃ (x3_1 : List Int) (x17_1 : Int), v17 = .int .i64 x17_1 ∧ Aside0 (impl_WordsOf.l0 kq x3_1 l0_0 (l0_0.length : Int) x17_1 l0_0 a0_1 = some r) ∧ Aside0 (kq ≤ k) ∧ Aside0 (Kd.R (Kd.int .i64) 3 w' w.heap.size (fun _ => True) (.slice Aoz1 y103.length coz1) x3_1) ∧ Aside0 (w'.heap[gbz1]? = some (.cells #[(.slice A0_0 l0_0.length c0_0), .int .i64 a0_1] 24 (0, 0))) ∧ Aside0 (Below w.heap.size w w'))
    case atStart => exact ⟨(t107), (0), rS, H', ⟨Nat.le_refl _⟩, ⟨(rX HOz1.out)⟩, ⟨(bX BKz1.out)⟩, ⟨(hX HB.out)⟩⟩
    case round =>
      clear H'
      try clear p2
      try clear c3
      try clear c4
      try clear c4b0
      try clear c4b1
      try clear hczz3
      try clear hczz4
      try clear hczz5
      try clear hczz6
      try clear hczz1
      try clear hczz2
      try clear hfzz3
      try clear hfzz4
      try clear hfzz5
      try clear hfzz6
      try clear hfzz1
      try clear hfzz2
      obtain ⟨x3_1, x17_1, rfl, HA, HKy1, HO_y1, BKz1, HB⟩ := hrel
      have hly1 := (Kd.R_reads' HO_y1.out).1
      rw [hly1] at HO_y1
      (try simp only [hly1])
      (try simp only [hly1] at BKz1)
      cases gk with
      | zero => exact absurd HA.out (by simp [impl_WordsOf.l0])
      | succ k1 =>
        have H := HA.out
        clear HA
        simp only [impl_WordsOf.l0] at H
        by_cases c15 : x17_1 < (l0_0.length : Int)
        · rw [if_pos c15] at H
          have c15b0 := decide_eq_true c15
          clear c15
          replace H := ifP H; obtain ⟨c16, H⟩ := H
          have c16b0 := decide_eq_true c16
          clear c16
          replace H := ifP H; obtain ⟨c17, H⟩ := H
          have c17b0 := decide_eq_true c17
          clear c17
          by_cases c18 : (rd l0_0 x17_1) = 0
          · rw [if_pos c18] at H
            obtain ⟨c18b0, c18b1⟩ := eqT c18
            clear c18
            have H' := Aside0.mk H
            clear H
            have px1 : 0 ≤ (x17_1 : Int) := of_decide_eq_true (by first | (with_reducible assumption) | assumption)
            have qx1 : x17_1 < (l0_0.length : Int) := of_decide_eq_true (by first | (with_reducible assumption) | assumption)
            obtain ⟨adx1, ex1, hxx1⟩ := Kd.at_int HR0_0.out x17_1 px1 qx1
            cases ex1
            replace hxx1 := (HB.out.cell (World.block_lt_of_cell? w _ hxx1)).trans hxx1
            replace px1 := eq_true px1
            replace qx1 := eq_true qx1
            go_wp2
            (try simp only [← hly1])
            go_roundg k1
            case measure => have := HKy1.out; omega
            case rel => exact ⟨(x3_1), (wrap64 (x17_1 + 1)), rS, H', ⟨by have := HKy1.out; omega⟩, ⟨by (try simp only [hly1]); (with_reducible repeat (first | apply Kd.R_alloc | apply Kd.R_drewN | apply Kd.R_drew)); exact HO_y1.out⟩, ⟨by (try simp only [hly1]); (with_reducible repeat (first | refine blk_drewN ?_ _ | refine blk_drew ?_ | refine blk_alloc ?_ _)); exact BKz1.out⟩, ⟨(hX HB.out)⟩⟩
          · rw [if_neg c18] at H
            obtain ⟨c18b0, c18b1⟩ := eqF c18
            replace H := bE H; obtain ⟨t111, A19, H⟩ := H
            replace H := ifP H; obtain ⟨c20, H⟩ := H
            have c20b0 := decide_eq_true c20
            clear c20
            replace H := ifP H; obtain ⟨c21, H⟩ := H
            have c21b0 := decide_eq_true c21
            clear c21
            replace H := sE H; obtain ⟨y112, Ny112, H⟩ := H
            replace H := bE H; obtain ⟨t113, A23, H⟩ := H
            replace H := bE H; obtain ⟨t114, A24, H⟩ := H
            replace H := ifP H; obtain ⟨c25, H⟩ := H
            have c25b0 := decide_eq_true c25
            clear c25
            replace H := ifP H; obtain ⟨c26, H⟩ := H
            have c26b0 := decide_eq_true c26
            clear c26
            replace H := sE H; obtain ⟨y116, Ny116, H⟩ := H
            have px1 : 0 ≤ (x17_1 : Int) := of_decide_eq_true (by first | (with_reducible assumption) | assumption)
            have qx1 : x17_1 < (l0_0.length : Int) := of_decide_eq_true (by first | (with_reducible assumption) | assumption)
            obtain ⟨adx1, ex1, hxx1⟩ := Kd.at_int HR0_0.out x17_1 px1 qx1
            cases ex1
            replace hxx1 := (HB.out.cell (World.block_lt_of_cell? w _ hxx1)).trans hxx1
            replace px1 := eq_true px1
            replace qx1 := eq_true qx1
            go_wp2_with (first | (refine goesM 52 26 Try.func52 #[.int .i64 (rd l0_0 x17_1)] ?_; refine (impl_OwnerAt.calls (rd l0_0 x17_1) t111 _ A19.out).mono ?_; rintro e w' ⟨rfl, ⟨nd, rfl⟩⟩; refine ⟨_, rfl, ?_⟩; (try (rw [drewN_self wr]; generalize hq_ : World.drewN wr _ = wr; have nx1 : Aside0 (Kd.R (Kd.int .i64) 3 wr w.heap.size (fun _ => True) (.slice Aoz1 x3_1.length coz1) x3_1) := ⟨by rw [← hq_]; exact (rX HO_y1.out)⟩; have nx2 : Aside0 (wr.heap[gbz1]? = some (.cells #[.slice (some adx1) l0_0.length c0_0, .int .i64 a0_1] 24 (0, 0))) := ⟨by rw [← hq_]; exact (bX BKz1.out)⟩; have nx3 : Aside0 (Below w.heap.size w wr) := ⟨by rw [← hq_]; exact (hX HB.out)⟩; clear HO_y1 BKz1 HB hq_; have HO_y1 := nx1; have BKz1 := nx2; have HB := nx3; clear nx1 nx2 nx3)); have px2 : 0 ≤ (t111 : Int) := of_decide_eq_true (by first | (with_reducible assumption) | assumption); have qx2 : (t111 : Int) < ((x3_1.length : Int) : Int) := of_decide_eq_true (by first | (with_reducible assumption) | assumption); obtain ⟨gox1, cox1, eox1, gbx1, glx1, clx1, HGx1⟩ := Kd.R_form HO_y1.out (by omega); (first | cases eox1 | (injection eox1 with ea_ en_ ec_; (first | subst ea_ | (injection ea_ with ea_; subst ea_)); subst ec_; clear en_)); have GBx1 := Aside0.mk gbx1; have GGx1 := Aside0.mk HGx1; clear gbx1 glx1 HGx1; obtain ⟨hxx2, hfx1⟩ := Kd.R_celln 0 HO_y1.out (t111 : Int) px2 qx2; replace px2 := eq_true px2; replace qx2 := eq_true qx2; obtain ⟨hyx1, hzx1⟩ := Kd.R_celln 0 HO_y1.out (t111 : Int) (of_decide_eq_true (by first | (with_reducible assumption) | assumption)) (of_decide_eq_true (by first | (with_reducible assumption) | assumption)); have HPx1 := Kd.R_putg HO_y1.out (t111 : Int) (wrap64 (x17_1 + 1))) | ((with_reducible refine gate_store (t := 3) (p := 29) rfl ?_); refine store_event (t := 3) (p := 29) (v := ?vo_wx1) (w1 := (wr.setCell ⟨gox1, (t111 : Int).toNat, none⟩ (.int .i64 (wrap64 (x17_1 + 1))))) ?hg ?ho ?hn ?hr ?_; (case ho => rfl); (case hg => rfl); (case hn => rfl); (case hr => first | (go_simp; done) | (go_simp; rfl)); intro wx1 hw; have hg : wr.grownBy wx1 (some gox1) := (by rw [hw]; exact HPx1.2); have hp_ : Kd.R (Kd.int .i64) 3 wx1 w.heap.size (fun _ => True) (.slice (some ⟨gox1, 0, none⟩) x3_1.length coz1) y112 := (by rw [hw, Ny112.out]; exact HPx1.1); clear HPx1; replace BKz1 := Aside0.mk (blk_grown (g := gbz1) (o := .cells #[.slice (some adx1) l0_0.length c0_0, .int .i64 a0_1] 24 (0, 0)) (bX BKz1.out) hg (Kd.R_ne HO_y1.out BKz1.out (by decide))); replace HO_y1 := Aside0.mk (hp_); replace HB := Aside0.mk ((by rw [hw]; exact below_set (HB.out) GBx1.out : Below w.heap.size w wx1)); clear hg hw hp_) | (refine goesM 87 32 Try.func87 #[.int .i64 (rd l0_0 x17_1)] ?_; refine (impl_ClassOf.calls (rd l0_0 x17_1) t113 _ A23.out).mono ?_; rintro e w' ⟨rfl, ⟨nd, rfl⟩⟩; refine ⟨_, rfl, ?_⟩; (try (rw [drewN_self wx1]; generalize hq_ : World.drewN wx1 _ = wx1; have nx1 : Aside0 (Kd.R (Kd.int .i64) 3 wx1 w.heap.size (fun _ => True) (.slice (some ⟨gox1, 0, none⟩) x3_1.length coz1) y112) := ⟨by rw [← hq_]; exact (rX HO_y1.out)⟩; have nx2 : Aside0 (wx1.heap[gbz1]? = some (.cells #[.slice (some adx1) l0_0.length c0_0, .int .i64 a0_1] 24 (0, 0))) := ⟨by rw [← hq_]; exact (bX BKz1.out)⟩; have nx3 : Aside0 (Below w.heap.size w wx1) := ⟨by rw [← hq_]; exact (hX HB.out)⟩; clear HO_y1 BKz1 HB hq_; have HO_y1 := nx1; have BKz1 := nx2; have HB := nx3; clear nx1 nx2 nx3))) | (refine goesM 46 33 Try.func46 #[.int .i64 t113] ?_; refine (impl_CountAt.calls t113 t114 _ A24.out).mono ?_; rintro e w' ⟨rfl, ⟨nd, rfl⟩⟩; refine ⟨_, rfl, ?_⟩; (try (rw [drewN_self wx1]; generalize hq_ : World.drewN wx1 _ = wx1; have nx1 : Aside0 (Kd.R (Kd.int .i64) 3 wx1 w.heap.size (fun _ => True) (.slice (some ⟨gox1, 0, none⟩) x3_1.length coz1) y112) := ⟨by rw [← hq_]; exact (rX HO_y1.out)⟩; have nx2 : Aside0 (wx1.heap[gbz1]? = some (.cells #[.slice (some adx1) l0_0.length c0_0, .int .i64 a0_1] 24 (0, 0))) := ⟨by rw [← hq_]; exact (bX BKz1.out)⟩; have nx3 : Aside0 (Below w.heap.size w wx1) := ⟨by rw [← hq_]; exact (hX HB.out)⟩; clear HO_y1 BKz1 HB hq_; have HO_y1 := nx1; have BKz1 := nx2; have HB := nx3; clear nx1 nx2 nx3)); have px3 : 0 ≤ (t114 : Int) := of_decide_eq_true (by first | (with_reducible assumption) | assumption); have qx3 : t114 < (y112.length : Int) := (by have h_ : (t114 : Int) < ((x3_1.length : Int) : Int) := of_decide_eq_true (by first | (with_reducible assumption) | assumption); first | (have e_ := (Kd.R_reads' HO_y1.out).1; omega) | simpa only [Ny112.out, List.length_set] using h_); have qlx1 : ((t114 : Int) < ((x3_1.length : Int) : Int)) = True := eq_true (of_decide_eq_true (by first | (with_reducible assumption) | assumption)); obtain ⟨adx2, ex2, hxx3⟩ := Kd.at_int (Kd.R_reads' HO_y1.out).2.2 t114 px3 qx3; obtain rfl : (⟨gox1, 0, none⟩ : Addr) = adx2 := (by injection ex2); (first | simp only [add_plain] at hxx3 | simp only [add_at] at hxx3 | simp only [Addr.add, Nat.zero_add] at hxx3 | skip); replace px3 := eq_true px3; replace qx3 := eq_true qx3; have px4 : 0 ≤ (t114 : Int) := of_decide_eq_true (by first | (with_reducible assumption) | assumption); have qx4 : (t114 : Int) < ((x3_1.length : Int) : Int) := of_decide_eq_true (by first | (with_reducible assumption) | assumption); obtain ⟨hxx4, hfx2⟩ := Kd.R_celln 0 HO_y1.out (t114 : Int) px4 qx4; replace px4 := eq_true px4; replace qx4 := eq_true qx4; obtain ⟨hyx2, hzx2⟩ := Kd.R_celln 0 HO_y1.out (t114 : Int) (of_decide_eq_true (by first | (with_reducible assumption) | assumption)) (of_decide_eq_true (by first | (with_reducible assumption) | assumption)); have HPx2 := Kd.R_putg HO_y1.out (t114 : Int) (wrap64 ((rd y112 t114) + 1))) | ((with_reducible refine gate_store (t := 3) (p := 37) rfl ?_); refine store_event (t := 3) (p := 37) (v := ?vo_wx2) (w1 := (wx1.setCell ⟨gox1, (t114 : Int).toNat, none⟩ (.int .i64 (wrap64 ((rd y112 t114) + 1))))) ?hg ?ho ?hn ?hr ?_; (case ho => rfl); (case hg => rfl); (case hn => rfl); (case hr => first | (go_simp; done) | (go_simp; rfl)); intro wx2 hw; have hg : wx1.grownBy wx2 (some gox1) := (by rw [hw]; exact HPx2.2); have hp_ : Kd.R (Kd.int .i64) 3 wx2 w.heap.size (fun _ => True) (.slice (some ⟨gox1, 0, none⟩) x3_1.length coz1) y116 := (by rw [hw, Ny116.out]; exact HPx2.1); clear HPx2; replace BKz1 := Aside0.mk (blk_grown (g := gbz1) (o := .cells #[.slice (some adx1) l0_0.length c0_0, .int .i64 a0_1] 24 (0, 0)) (bX BKz1.out) hg (Kd.R_ne HO_y1.out BKz1.out (by decide))); replace HO_y1 := Aside0.mk (hp_); replace HB := Aside0.mk ((by rw [hw]; exact below_set (HB.out) GBx1.out : Below w.heap.size w wx2)); clear hg hw hp_; obtain ⟨hczx1, hczx2, hfzx1, hfzx2⟩ := cZ2 BKz1.out; refine Stop.out ?_))
            refine ⟨?_⟩
            by_cases c28 : x17_1 < (wrap64 (a0_1 - 1))
            · rw [if_pos c28] at H
              have c28b0 := decide_eq_true c28
              clear c28
              replace H := bE H; obtain ⟨t117, A29, H⟩ := H
              replace H := ifP H; obtain ⟨c30, H⟩ := H
              have c30b0 := decide_eq_true c30
              clear c30
              replace H := ifP H; obtain ⟨c31, H⟩ := H
              have c31b0 := decide_eq_true c31
              clear c31
              obtain ⟨y118, hy118⟩ : ∃ y_ : List Int, y_ = (y116.set (t117 : Int).toNat (wrap64 (x17_1 + 1))) := ⟨_, rfl⟩
              replace H : (impl_WordsOf.l0 k1 y118 l0_0 (l0_0.length : Int) (wrap64 (x17_1 + 1)) l0_0 a0_1) = some r := yH H hy118
              have Ny118 := Aside0.mk hy118
              clear hy118
              have H' := Aside0.mk H
              clear H
              go_wp2_with (first | (refine goesM 84 45 Try.func84 #[.int .i64 (rd l0_0 x17_1)] ?_; refine (impl_ViaAt.calls (rd l0_0 x17_1) t117 _ A29.out).mono ?_; rintro e w' ⟨rfl, ⟨nd, rfl⟩⟩; refine ⟨_, rfl, ?_⟩; (try (rw [drewN_self wx2]; generalize hq_ : World.drewN wx2 _ = wx2; have nx1 : Aside0 (Kd.R (Kd.int .i64) 3 wx2 w.heap.size (fun _ => True) (.slice (some ⟨gox1, 0, none⟩) x3_1.length coz1) y116) := ⟨by rw [← hq_]; exact (rX HO_y1.out)⟩; have nx2 : Aside0 (wx2.heap[gbz1]? = some (.cells #[.slice (some adx1) l0_0.length c0_0, .int .i64 a0_1] 24 (0, 0))) := ⟨by rw [← hq_]; exact (bX BKz1.out)⟩; have nx3 : Aside0 (Below w.heap.size w wx2) := ⟨by rw [← hq_]; exact (hX HB.out)⟩; clear HO_y1 BKz1 HB hq_; have HO_y1 := nx1; have BKz1 := nx2; have HB := nx3; clear nx1 nx2 nx3)); have px5 : 0 ≤ (t117 : Int) := of_decide_eq_true (by first | (with_reducible assumption) | assumption); have qx5 : (t117 : Int) < ((x3_1.length : Int) : Int) := of_decide_eq_true (by first | (with_reducible assumption) | assumption); obtain ⟨hxx5, hfx3⟩ := Kd.R_celln 0 HO_y1.out (t117 : Int) px5 qx5; replace px5 := eq_true px5; replace qx5 := eq_true qx5; obtain ⟨hyx3, hzx3⟩ := Kd.R_celln 0 HO_y1.out (t117 : Int) (of_decide_eq_true (by first | (with_reducible assumption) | assumption)) (of_decide_eq_true (by first | (with_reducible assumption) | assumption)); have HPx3 := Kd.R_putg HO_y1.out (t117 : Int) (wrap64 (x17_1 + 1))) | ((with_reducible refine gate_store (t := 3) (p := 48) rfl ?_); refine store_event (t := 3) (p := 48) (v := ?vo_wx3) (w1 := (wx2.setCell ⟨gox1, (t117 : Int).toNat, none⟩ (.int .i64 (wrap64 (x17_1 + 1))))) ?hg ?ho ?hn ?hr ?_; (case ho => rfl); (case hg => rfl); (case hn => rfl); (case hr => first | (go_simp; done) | (go_simp; rfl)); intro wx3 hw; have hg : wx2.grownBy wx3 (some gox1) := (by rw [hw]; exact HPx3.2); have hp_ : Kd.R (Kd.int .i64) 3 wx3 w.heap.size (fun _ => True) (.slice (some ⟨gox1, 0, none⟩) x3_1.length coz1) y118 := (by rw [hw, Ny118.out]; exact HPx3.1); clear HPx3; replace BKz1 := Aside0.mk (blk_grown (g := gbz1) (o := .cells #[.slice (some adx1) l0_0.length c0_0, .int .i64 a0_1] 24 (0, 0)) (bX BKz1.out) hg (Kd.R_ne HO_y1.out BKz1.out (by decide))); replace HO_y1 := Aside0.mk (hp_); replace HB := Aside0.mk ((by rw [hw]; exact below_set (HB.out) GBx1.out : Below w.heap.size w wx3)); clear hg hw hp_))
              (try simp only [← hly1])
              go_roundg k1
              case measure => have := HKy1.out; omega
              case rel => exact ⟨(y118), (wrap64 (x17_1 + 1)), rS, H', ⟨by have := HKy1.out; omega⟩, ⟨by (try simp only [hly1]); (with_reducible repeat (first | apply Kd.R_alloc | apply Kd.R_drewN | apply Kd.R_drew)); exact HO_y1.out⟩, ⟨by (try simp only [hly1]); (with_reducible repeat (first | refine blk_drewN ?_ _ | refine blk_drew ?_ | refine blk_alloc ?_ _)); exact BKz1.out⟩, ⟨(hX HB.out)⟩⟩
            · rw [if_neg c28] at H
              have c28b0 := decide_eq_false c28
              clear c28
              have H' := Aside0.mk H
              clear H
              go_wp2
              (try simp only [← hly1])
              go_roundg k1
              case measure => have := HKy1.out; omega
              case rel => exact ⟨(y116), (wrap64 (x17_1 + 1)), rS, H', ⟨by have := HKy1.out; omega⟩, ⟨by (try simp only [hly1]); (with_reducible repeat (first | apply Kd.R_alloc | apply Kd.R_drewN | apply Kd.R_drew)); exact HO_y1.out⟩, ⟨by (try simp only [hly1]); (with_reducible repeat (first | refine blk_drewN ?_ _ | refine blk_drew ?_ | refine blk_alloc ?_ _)); exact BKz1.out⟩, ⟨(hX HB.out)⟩⟩
        · rw [if_neg c15] at H
          have c15b0 := decide_eq_false c15
          clear c15
          replace H := bE H; obtain ⟨t108, A45, H⟩ := H
          replace H := ifP H; obtain ⟨c46, H⟩ := H
          have c46b0 := decide_eq_true c46
          clear c46
          replace H := ifP H; obtain ⟨c47, H⟩ := H
          have c47b0 := decide_eq_true c47
          clear c47
          obtain ⟨y109, hy109⟩ : ∃ y_ : List Int, y_ = (x3_1.set (t108 : Int).toNat a0_1) := ⟨_, rfl⟩
          replace H : (some y109) = some r := yH H hy109
          have Ny109 := Aside0.mk hy109
          clear hy109
          obtain rfl := Option.some.inj H
          try go_wp2
          replace HO_y1 := Aside0.mk (Kd.R_drew HO_y1.out)
          replace BKz1 := Aside0.mk (blk_drew BKz1.out)
          replace HB := Aside0.mk (below_drew1 HB.out)
          refine start_ (n := 6) (S := fun w' => w'.cell? ⟨gbz1, 0, none⟩ = some (.slice A0_0 l0_0.length c0_0) ∧ w'.cell? ⟨gbz1, 1, none⟩ = some (.int .i64 a0_1)) (ds := [5]) (bm 6 0) (by kernel_rfl) rfl (by kernel_rfl) ⟨cK BKz1.out 0, cK BKz1.out 1⟩ (fun hHeld => ?_)
          generalize wr.drew = wx1 at HO_y1 BKz1 HB hHeld ⊢
          refine pK 0 50 (bm 6 1) ?_
          refine pK 2 52 (bm 6 5) ?_
          refine tK 3 53 (bm 6 13) hHeld ?_
          refine oK 1 (some 51) (bm 6 15) (fun K hK => ?_)
          refine goesN Try.func76 #[] ?_
          with_reducible refine (impl_StateAt.calls  t108 _ A45.out).mono ?_
          rintro e w' ⟨rfl, ⟨nd, rfl⟩⟩
          refine ⟨_, rfl, ?_⟩
          have px1 : 0 ≤ (t108 : Int) := of_decide_eq_true (by first | (with_reducible assumption) | assumption)
          have qx1 : (t108 : Int) < ((x3_1.length : Int) : Int) := of_decide_eq_true (by first | (with_reducible assumption) | assumption)
          obtain ⟨gox1, cox1, eox1, gbx1, glx1, clx1, HGx1⟩ := Kd.R_form HO_y1.out (by omega)
          (first | cases eox1 | (injection eox1 with ea_ en_ ec_; (first | subst ea_ | (injection ea_ with ea_; subst ea_)); subst ec_; clear en_))
          have GBx1 := Aside0.mk gbx1
          have GGx1 := Aside0.mk HGx1
          clear gbx1 glx1 HGx1
          obtain ⟨hxx1, hfx1⟩ := Kd.R_celln 0 HO_y1.out (t108 : Int) px1 qx1
          replace px1 := eq_true px1
          replace qx1 := eq_true qx1
          have HPx1 := Kd.R_putn HO_y1.out (t108 : Int) a0_1
          rw [← Ny109.out] at HPx1
          have HQx1 := Aside0.mk HPx1
          clear HPx1
          refine hK.out _ _ ⟨cK BKz1.out 0, cK BKz1.out 1⟩ (fun hHeld => ?_)
          clear hK K
          refine nZ 51 ?_
          refine pK 4 54 (bm 6 31) ?_
          refine last_ (i := 5) (N := none) #[true, true, true, true, true, true] rfl rfl (by kernel_rfl) (by decide) (fun K hK => ?_)
          refine skip_ (w1 := ?_) (by rfl) rfl ?_ ?_
          rotate_left
          · go_simp
            rfl
          refine hK.out _ _ ?_
          clear hK K
          refine done_ (by kernel_rfl) ?_
          try go_wp2
          go_ret
          exact ⟨_, rE, (rX HQx1.out), (hX HB.out)⟩
  · replace c3 := Bool.eq_false_iff.mpr c3
    subst c3
    rw [if_neg nft] at H
    obtain rfl := Option.some.inj H
    go_wp2_with (first | (refine goesM 38 7 Try.func38 #[.agg #[.slice A0_0 l0_0.length c0_0, .int .i64 a0_1]] ?_; refine (impl_RowsOk.calls k _ _ l0_0 a0_1 false _ (cC HR0_0.out HB.out) HC0_0.out A2.out).mono ?_; rintro e wz2 ⟨rfl, hb⟩; refine ⟨_, rfl, ?_⟩; replace BKz1 := Aside0.mk (blk_below (bX BKz1.out) hb); replace HB := Aside0.mk (below_step (hX HB.out) hb); clear hb))
    go_ret
    exact ⟨(Value.slice none 0 0), rE, (by first | exact Kd.R_nil _ _ _ _ _ | exact Kd.S_nil _ _ _ _ _ | exact Kd.V_nil _ _ _ _ _ | exact Kd.N_nil _ _ _ _ _ | exact Kd.Q_nil _ _ _ _ _), (hX HB.out)⟩
end Go.Proofs.Yteamagejhbkhnaa.P
namespace Go.Proofs.Yteamagejhbkhnaa.P
open Go.Proofs.YteamagejhbkhnaaZ Go.RowKit Go.Proofs.YteamagejhbkhnaaW.PrintWords Go.Proofs.YteamagejhbkhnaaW.PrintLast Go.Proofs.YteamagejhbkhnaaW.PrintMore
attribute [local go_sem] max2_int min2_int max_two min_two max_three min_three max_four min_four   -- for this text's walks alone
set_option linter.unusedVariables false
set_option linter.unusedSimpArgs false
def slices_Equal_int_int.l0 : Nat → List Int → List Int → Int → Int → Option (Bool)
  | 0, _, _, _, _ => none
  | k + 1, x0, x1, x12, x13 => if x13 < x12 then (if 0 ≤ x13 then (if x13 < (x0.length : Int) then (if x13 < (x1.length : Int) then (if (rd x0 x13) = (rd x1 x13) then (slices_Equal_int_int.l0 k x0 x1 x12 (wrap64 (x13 + 1))) else (some false)) else (none)) else (none)) else (none)) else (some true)
def slices_Equal_int_int.f (k : Nat) (l0 : List Int) (l1 : List Int) : Option (Bool) := if (l0.length : Int) = (l1.length : Int) then (slices_Equal_int_int.l0 k l0 l1 (l0.length : Int) 0) else (some false)
set_option maxHeartbeats 8000000 in
set_option maxRecDepth 100000 in
theorem slices_Equal_int_int.calls (k : Nat) (A0 : Option Addr) (c0 : Nat) (l0 : List Int) (A1 : Option Addr) (c1 : Nat) (l1 : List Int) (r : Bool) (w : World) (hr0 : Kd.C (Kd.int .i64) w A0 l0.length l0) (hc0 : l0.length ≤ c0) (hr1 : Kd.C (Kd.int .i64) w A1 l1.length l1) (hc1 : l1.length ≤ c1) (h : slices_Equal_int_int.f k l0 l1 = some r) :
    Calls Try.prog 78 #[.slice A0 l0.length c0, .slice A1 l1.length c1] w fun e w' => e = .returned (.bool r) ∧ Drawn0 w w' := by
  have HR0 := Aside0.mk hr0
  have HC0 := Aside0.mk hc0
  clear hr0 hc0
  have HR1 := Aside0.mk hr1
  have HC1 := Aside0.mk hc1
  clear hr1 hc1
  have H := h
  unfold slices_Equal_int_int.f at H
  clear h
  go_enter Try.func78, Try.ntmps78
  by_cases c3 : (l0.length : Int) = (l1.length : Int)
  · rw [if_pos c3] at H
    obtain ⟨c3b0, c3b1⟩ := eqT c3
    have c3b2 : (l0.length == l1.length) = true := by first | simpa using c3 | (simp at c3 ⊢; omega)
    clear c3
    have H' := Aside0.mk H
    clear H
    go_wp2
    repeat (go_quiet (fail); try go_wp2)
    go_loopg [13] k (fun kq v13 w' => ∃ (x13_1 : Int), v13 = .int .i64 x13_1 ∧ Aside0 (slices_Equal_int_int.l0 kq l0 l1 (l0.length : Int) x13_1 = some r) ∧ Aside0 (kq ≤ k) ∧ Drawn0 w w')
    case atStart => exact ⟨(0), rS, H', ⟨Nat.le_refl _⟩, dX⟩
    case round =>
      clear H'
      try clear c1
      try clear p2
      try clear c3
      try clear c3b0
      try clear c3b1
      try clear c3b2
      obtain ⟨x13_1, rfl, HA, HKy1, ⟨my1, rfl⟩⟩ := hrel
      cases gk with
      | zero => exact absurd HA.out (by simp [slices_Equal_int_int.l0])
      | succ k1 =>
        have H := HA.out
        clear HA
        simp only [slices_Equal_int_int.l0] at H
        by_cases c4 : x13_1 < (l0.length : Int)
        · rw [if_pos c4] at H
          have c4b0 := decide_eq_true c4
          clear c4
          replace H := ifP H; obtain ⟨c5, H⟩ := H
          have c5b0 := decide_eq_true c5
          clear c5
          replace H := ifP H; obtain ⟨c6, H⟩ := H
          have c6b0 := decide_eq_true c6
          clear c6
          replace H := ifP H; obtain ⟨c7, H⟩ := H
          have c7b0 := decide_eq_true c7
          clear c7
          by_cases c8 : (rd l0 x13_1) = (rd l1 x13_1)
          · rw [if_pos c8] at H
            obtain ⟨c8b0, c8b1⟩ := eqT c8
            clear c8
            have H' := Aside0.mk H
            clear H
            have px1 : 0 ≤ (x13_1 : Int) := of_decide_eq_true (by first | (with_reducible assumption) | assumption)
            have qx1 : x13_1 < (l0.length : Int) := of_decide_eq_true (by first | (with_reducible assumption) | assumption)
            obtain ⟨adx1, ex1, hxx1⟩ := Kd.at_int HR0.out x13_1 px1 qx1
            cases ex1
            replace px1 := eq_true px1
            replace qx1 := eq_true qx1
            have px2 : 0 ≤ (x13_1 : Int) := of_decide_eq_true (by first | (with_reducible assumption) | assumption)
            have qx2 : x13_1 < (l1.length : Int) := of_decide_eq_true (by first | (with_reducible assumption) | assumption)
            obtain ⟨adx2, ex2, hxx2⟩ := Kd.at_int HR1.out x13_1 px2 qx2
            cases ex2
            replace px2 := eq_true px2
            replace qx2 := eq_true qx2
            go_wp2
            repeat (go_quiet (fail); try go_wp2)
            go_roundg k1
            case measure => have := HKy1.out; omega
            case rel => exact ⟨(wrap64 (x13_1 + 1)), rS, H', ⟨by have := HKy1.out; omega⟩, dX⟩
          · rw [if_neg c8] at H
            obtain ⟨c8b0, c8b1⟩ := eqF c8
            obtain rfl := Option.some.inj H
            have px1 : 0 ≤ (x13_1 : Int) := of_decide_eq_true (by first | (with_reducible assumption) | assumption)
            have qx1 : x13_1 < (l0.length : Int) := of_decide_eq_true (by first | (with_reducible assumption) | assumption)
            obtain ⟨adx1, ex1, hxx1⟩ := Kd.at_int HR0.out x13_1 px1 qx1
            cases ex1
            replace px1 := eq_true px1
            replace qx1 := eq_true qx1
            have px2 : 0 ≤ (x13_1 : Int) := of_decide_eq_true (by first | (with_reducible assumption) | assumption)
            have qx2 : x13_1 < (l1.length : Int) := of_decide_eq_true (by first | (with_reducible assumption) | assumption)
            obtain ⟨adx2, ex2, hxx2⟩ := Kd.at_int HR1.out x13_1 px2 qx2
            cases ex2
            replace px2 := eq_true px2
            replace qx2 := eq_true qx2
            go_wp2
            repeat (go_quiet (fail); try go_wp2)
            go_ret
            exact ⟨by first | rfl | (simp; done) | (simp [*]; done), dX⟩
        · rw [if_neg c4] at H
          have c4b0 := decide_eq_false c4
          clear c4
          obtain rfl := Option.some.inj H
          go_wp2
          repeat (go_quiet (fail); try go_wp2)
          go_ret
          exact ⟨by first | rfl | (simp; done) | (simp [*]; done), dX⟩
  · rw [if_neg c3] at H
    obtain ⟨c3b0, c3b1⟩ := eqF c3
    have c3b2 : (l0.length == l1.length) = false := by first | simpa using c3 | (simp at c3 ⊢; omega)
    obtain rfl := Option.some.inj H
    go_wp2
    repeat (go_quiet (fail); try go_wp2)
    go_ret
    exact ⟨by first | rfl | (simp; done) | (simp [*]; done), dX⟩
end Go.Proofs.Yteamagejhbkhnaa.P
namespace Go.Proofs.Yteamagejhbkhnaa.P
open Go.Proofs.YteamagejhbkhnaaZ Go.RowKit Go.Proofs.YteamagejhbkhnaaW.PrintWords Go.Proofs.YteamagejhbkhnaaW.PrintLast Go.Proofs.YteamagejhbkhnaaW.PrintMore
attribute [local go_sem] max2_int min2_int max_two min_two max_three min_three max_four min_four   -- for this text's walks alone
set_option linter.unusedVariables false
set_option linter.unusedSimpArgs false
def impl_Whole.f (k : Nat) (l0 : List Int) : Option (Bool) := (impl_RowsIn.f l0).bind fun bt101 => ((impl_RowsOk.f k bt101.1 bt101.2).bind fun t106 => (if t106 = true then ((impl_WordsOf.f k bt101.1 bt101.2).bind fun t107 => ((slices_Equal_int_int.f k t107 l0).bind fun t110 => (some t110))) else (some false)))
set_option maxHeartbeats 8000000 in
set_option maxRecDepth 100000 in
theorem impl_Whole.calls (k : Nat) (A0 : Option Addr) (c0 : Nat) (l0 : List Int) (r : Bool) (w : World) (hr0 : Kd.C (Kd.int .i64) w A0 l0.length l0) (hc0 : l0.length ≤ c0) (h : impl_Whole.f k l0 = some r) :
    Calls Try.prog 22 #[.slice A0 l0.length c0] w fun e w' => e = .returned (.bool r) ∧ Below w.heap.size w w' := by
  have hu24 := Try.underlying24
  have HR0 := Aside0.mk hr0
  have HC0 := Aside0.mk hc0
  clear hr0 hc0
  have HB := Aside0.mk (Below.refl w.heap.size w)
  have H := h
  unfold impl_Whole.f at H
  clear h
  replace H := bE H; obtain ⟨⟨t101, t104⟩, A2, H⟩ := H
  try dsimp only at H
  replace H := bE H; obtain ⟨t106, A3, H⟩ := H
  go_enter Try.func22, Try.ntmps22
  go_wp2_with (first | (refine goesM 15 5 Try.func15 #[.slice A0 l0.length c0] ?_; refine (impl_RowsIn.calls _ _ l0 t101 t104 _ (cX HR0.out) HC0.out A2.out).mono ?_; rintro e wz1 ⟨vz1, rfl, hoz1, hb⟩; refine ⟨_, rfl, ?_⟩; have HOz1 := Aside0.mk (Kd.R_lower hoz1 (below_size (hX HB.out))); replace HB := Aside0.mk (below_step (hX HB.out) hb); clear hb hoz1) | (refine boxE 3 #[.slice none 0 0, .int .i64 0] 24 ?_; intro gbz1 hg wz2 hbox hb; have BKz1 := Aside0.mk (hbox); have GWz1 := Aside0.mk (gX' hg (hX HB.out)); have GEz1 := Aside0.mk (gX' hg (hX HB.out)); replace HOz1 := Aside0.mk (Kd.R_below (rX HOz1.out) hb); replace HB := Aside0.mk (below_step (hX HB.out) hb); clear hb hbox hg; obtain ⟨Aoz1, coz1, eoz1⟩ := Kd.R_slice HOz1.out; subst eoz1; obtain ⟨hczz1, hczz2, hfzz1, hfzz2⟩ := cZ2 BKz1.out; refine Stop.out ?_))
  refine ⟨?_⟩
  by_cases c4 : t106 = true
  · subst c4
    rw [if_pos rfl] at H
    replace H := bE H; obtain ⟨t107, A5, H⟩ := H
    replace H := bE H; obtain ⟨t110, A6, H⟩ := H
    obtain rfl := Option.some.inj H
    go_wp2_with (first | (refine goesM 38 7 Try.func38 #[.agg #[.slice Aoz1 t101.length coz1, .int .i64 t104]] ?_; refine (impl_RowsOk.calls k _ _ t101 t104 true _ (by refine (Kd.R_reads' (e := 3) (base := w.heap.size) (ok := fun k_ => True) (n := t101.length) (c := coz1) ?_).2.2; exact (rT (h := by exact (Kd.R_mono (Kd.R_far (p := ⟨gbz1, 1, none⟩) (Kd.R_far (p := ⟨gbz1, 0, none⟩) (Kd.R_types HOz1.out BKz1.out (by decide)) (fun _ hk => hk.2) (.slice Aoz1 t101.length coz1)) (fun _ hk => hk.2) (.int .i64 t104)) (fun _ h_ => h_.1))))) ((Kd.R_reads' HOz1.out).2.1) A3.out).mono ?_; rintro e wz3 ⟨rfl, hb⟩; refine ⟨_, rfl, ?_⟩; replace HOz1 := Aside0.mk (Kd.R_below (rT (h := by exact (Kd.R_mono (Kd.R_far (p := ⟨gbz1, 1, none⟩) (Kd.R_far (p := ⟨gbz1, 0, none⟩) (Kd.R_types HOz1.out BKz1.out (by decide)) (fun _ hk => hk.2) (.slice Aoz1 t101.length coz1)) (fun _ hk => hk.2) (.int .i64 t104)) (fun _ h_ => h_.1)))) hb); replace BKz1 := Aside0.mk (blk_below (g := gbz1) (o := .cells #[.slice Aoz1 t101.length coz1, .int .i64 t104] 24 (0, 0)) (bP BKz1.out) hb); replace HB := Aside0.mk (below_step (hX HB.out) hb); clear hb; obtain ⟨hczz3, hczz4, hfzz3, hfzz4⟩ := cZ2 BKz1.out) | (go_at_call 32; (with_reducible refine (impl_WordsOf.calls k _ _ t101 t104 t107 _ ?side1 ?side2 A5.out).mono ?_); (case side1 => repeat (first | exact (Kd.R_reads' HOz1.out).2.2 | (with_reducible refine Kd.C_alloc ?_ _) | (with_reducible refine Kd.C_drewN ?_ _) | (with_reducible refine Kd.C_drew ?_))); (case side2 => exact (Kd.R_reads' HOz1.out).2.1); rintro e wz4 ⟨vz2, rfl, hoz1, hb⟩; have HOz2 := Aside0.mk (Kd.R_lower (Kd.R_new' hoz1 (Kd.R_lt (rX HOz1.out))) (below_size (hX HB.out))); replace HOz1 := Aside0.mk (Kd.R_elder' (rX HOz1.out) (Kd.R_base hoz1) hb); replace BKz1 := Aside0.mk (blk_below (bX BKz1.out) hb); replace HB := Aside0.mk (below_step (hX HB.out) hb); clear hb hoz1; obtain ⟨Aoz2, coz2, eoz2⟩ := Kd.R_slice HOz2.out; subst eoz2) | (go_at_call 78; (with_reducible refine (slices_Equal_int_int.calls k _ _ t107 _ _ l0 t110 _ ?side1 ?side2 ?side3 ?side4 A6.out).mono ?_); (case side1 => repeat (first | exact (Kd.R_reads' HOz2.out).2.2 | (with_reducible refine Kd.C_alloc ?_ _) | (with_reducible refine Kd.C_drewN ?_ _) | (with_reducible refine Kd.C_drew ?_))); (case side2 => exact (Kd.R_reads' HOz2.out).2.1); (case side3 => repeat (first | exact (Kd.C_below HR0.out HB.out) | (with_reducible refine Kd.C_alloc ?_ _) | (with_reducible refine Kd.C_drewN ?_ _) | (with_reducible refine Kd.C_drew ?_))); (case side4 => exact HC0.out); rintro e w' ⟨rfl, ⟨nd, rfl⟩⟩))
    go_ret
    exact ⟨rE, (hX HB.out)⟩
  · replace c4 := Bool.eq_false_iff.mpr c4
    subst c4
    rw [if_neg nft] at H
    obtain rfl := Option.some.inj H
    go_wp2_with (first | (refine goesM 38 7 Try.func38 #[.agg #[.slice Aoz1 t101.length coz1, .int .i64 t104]] ?_; refine (impl_RowsOk.calls k _ _ t101 t104 false _ (by refine (Kd.R_reads' (e := 3) (base := w.heap.size) (ok := fun k_ => True) (n := t101.length) (c := coz1) ?_).2.2; exact (rT (h := by exact (Kd.R_mono (Kd.R_far (p := ⟨gbz1, 1, none⟩) (Kd.R_far (p := ⟨gbz1, 0, none⟩) (Kd.R_types HOz1.out BKz1.out (by decide)) (fun _ hk => hk.2) (.slice Aoz1 t101.length coz1)) (fun _ hk => hk.2) (.int .i64 t104)) (fun _ h_ => h_.1))))) ((Kd.R_reads' HOz1.out).2.1) A3.out).mono ?_; rintro e wz3 ⟨rfl, hb⟩; refine ⟨_, rfl, ?_⟩; replace HOz1 := Aside0.mk (Kd.R_below (rT (h := by exact (Kd.R_mono (Kd.R_far (p := ⟨gbz1, 1, none⟩) (Kd.R_far (p := ⟨gbz1, 0, none⟩) (Kd.R_types HOz1.out BKz1.out (by decide)) (fun _ hk => hk.2) (.slice Aoz1 t101.length coz1)) (fun _ hk => hk.2) (.int .i64 t104)) (fun _ h_ => h_.1)))) hb); replace BKz1 := Aside0.mk (blk_below (g := gbz1) (o := .cells #[.slice Aoz1 t101.length coz1, .int .i64 t104] 24 (0, 0)) (bP BKz1.out) hb); replace HB := Aside0.mk (below_step (hX HB.out) hb); clear hb))
    go_ret
    exact ⟨rE, (hX HB.out)⟩
end Go.Proofs.Yteamagejhbkhnaa.P
namespace Go.Proofs.Yteamagejhbkhnaa.P
open Go.Proofs.YteamagejhbkhnaaZ Go.RowKit Go.Proofs.YteamagejhbkhnaaW.PrintWords Go.Proofs.YteamagejhbkhnaaW.PrintLast Go.Proofs.YteamagejhbkhnaaW.PrintMore
attribute [local go_sem] max2_int min2_int max_two min_two max_three min_three max_four min_four   -- for this text's walks alone
set_option linter.unusedVariables false
set_option linter.unusedSimpArgs false
mutual
def spec_Stray.l0 : Nat → List Int → List Int → List Int → Int → Option (List Int)
  | 0, _, _, _, _ => none
  | k + 1, x0, x3, x4, x5 => if x5 < (x4.length : Int) then (spec_Stray.j1 k x0 x3 x4 x5 (decide (x5 < (x0.length : Int)))) else (spec_Stray.j1 k x0 x3 x4 x5 false)
def spec_Stray.j1 : Nat → List Int → List Int → List Int → Int → Bool → Option (List Int)
  | 0, _, _, _, _, _ => none
  | k + 1, x0, x3, x4, x5, x19 => if x19 = true then (if 0 ≤ x5 then (if x5 < (x0.length : Int) then (if x5 < (x4.length : Int) then (if (rd x0 x5) = (rd x4 x5) then (spec_Stray.l0 k x0 x3 x4 (wrap64 (x5 + 1))) else (if x3.length < 17592186044416 then (spec_Stray.l0 k x0 (x3 ++ [x5]) x4 (wrap64 (x5 + 1))) else (none))) else (none)) else (none)) else (none)) else (some x3)
end
def spec_Stray.f (k : Nat) (l0 : List Int) : Option (List Int) := (spec_RowsIn.f l0).bind fun bt104 => ((spec_WordsOf.f k bt104.1 bt104.2).bind fun t108 => (spec_Stray.l0 k l0 (([] : List Int)) t108 0))
set_option maxHeartbeats 8000000 in
set_option maxRecDepth 100000 in
theorem spec_Stray.calls (k : Nat) (A0 : Option Addr) (c0 : Nat) (l0 : List Int) (r : List Int) (w : World) (hr0 : Kd.C (Kd.int .i64) w A0 l0.length l0) (hc0 : l0.length ≤ c0) (h : spec_Stray.f k l0 = some r) :
    Calls Try.prog 23 #[.slice A0 l0.length c0] w fun e w' => ∃ v0_ : Value, e = .returned (v0_) ∧ Kd.R (Kd.int .i64) 3 w' w.heap.size (fun _ => True) v0_ r ∧ Below w.heap.size w w' := by
  have HR0 := Aside0.mk hr0
  have HC0 := Aside0.mk hc0
  clear hr0 hc0
  have HB := Aside0.mk (Below.refl w.heap.size w)
  have H := h
  unfold spec_Stray.f at H
  clear h
  obtain ⟨y101, hy101⟩ : ∃ y_ : List Int, y_ = (([] : List Int)) := ⟨_, rfl⟩
  replace H : ((spec_RowsIn.f l0).bind fun bt104 => ((spec_WordsOf.f k bt104.1 bt104.2).bind fun t108 => (spec_Stray.l0 k l0 y101 t108 0))) = some r := yH H hy101
  have Ny101 := Aside0.mk hy101
  clear hy101
  replace H := bE H; obtain ⟨⟨t104, t107⟩, A2, H⟩ := H
  try dsimp only at H
  replace H := bE H; obtain ⟨t108, A3, H⟩ := H
  have H' := Aside0.mk H
  clear H
  go_enter Try.func23, Try.ntmps23
  go_wp2_with (first | ((with_reducible refine gate_dst (N := 6) rfl ?_); (try (refine gate_guard (by rfl) ?_; dsimp only)); refine Kd.R_lit (Kd.int .i64) _ 3 ?hg (N := 6) ?hd (xs := ([] : List Int)) (inner := []) (ok := fun _ => True) (okp := fun _ => True) ?hr ?hp (fun _ hk => hk) trivial (Below.refl _ _) (Nat.le_refl _) (by simp) ?_; (case hd => rfl); (case hg => rfl); (case hr => first | (go_simp; done) | (go_simp; rfl)); (case hp => exact (Reps.none _ _)); intro vz1 wz1 hoz1 hb hg_ hnew_; clear hg_ hnew_; (first | rw [← Ny101.out] at hoz1 | (simp only [Int.reduceToNat] at hoz1; rw [← Ny101.out] at hoz1)); have HOz1 := Aside0.mk (Kd.R_lower hoz1 (below_size (hX HB.out))); replace HB := Aside0.mk (below_step (hX HB.out) hb); clear hb hoz1) | (go_at_call 13; (with_reducible refine (spec_RowsIn.calls _ _ l0 t104 t107 _ ?side1 ?side2 A2.out).mono ?_); (case side1 => repeat (first | exact (Kd.C_below HR0.out HB.out) | (with_reducible refine Kd.C_alloc ?_ _) | (with_reducible refine Kd.C_drewN ?_ _) | (with_reducible refine Kd.C_drew ?_))); (case side2 => exact HC0.out); rintro e wz2 ⟨vz2, rfl, hoz2, hb⟩; have HOz2 := Aside0.mk (Kd.R_lower (Kd.R_new' hoz2 (Kd.R_lt (rX HOz1.out))) (below_size (hX HB.out))); replace HOz1 := Aside0.mk (Kd.R_elder' (rX HOz1.out) (Kd.R_base hoz2) hb); replace HB := Aside0.mk (below_step (hX HB.out) hb); clear hb hoz2; obtain ⟨Aoz1, coz1, eoz1⟩ := Kd.R_slice HOz2.out; subst eoz1) | (go_at_call 37; (with_reducible refine (spec_WordsOf.calls k _ _ t104 t107 t108 _ ?side1 ?side2 A3.out).mono ?_); (case side1 => repeat (first | exact (Kd.R_reads' HOz2.out).2.2 | (with_reducible refine Kd.C_alloc ?_ _) | (with_reducible refine Kd.C_drewN ?_ _) | (with_reducible refine Kd.C_drew ?_))); (case side2 => exact (Kd.R_reads' HOz2.out).2.1); rintro e wz3 ⟨vz3, rfl, hoz2, hb⟩; have HOz3 := Aside0.mk (Kd.R_lower (Kd.R_new' (Kd.R_new' hoz2 (Kd.R_lt (rX HOz1.out))) (Kd.R_lt (rX HOz2.out))) (below_size (hX HB.out))); replace HOz1 := Aside0.mk (Kd.R_elder' (rX HOz1.out) (Kd.R_base hoz2) hb); replace HOz2 := Aside0.mk (Kd.R_elder' (rX HOz2.out) (Kd.R_base hoz2) hb); replace HB := Aside0.mk (below_step (hX HB.out) hb); clear hb hoz2))
  repeat (go_quiet (first | ((with_reducible refine gate_dst (N := 6) rfl ?_); (try (refine gate_guard (by rfl) ?_; dsimp only)); refine Kd.R_lit (Kd.int .i64) _ 3 ?hg (N := 6) ?hd (xs := ([] : List Int)) (inner := []) (ok := fun _ => True) (okp := fun _ => True) ?hr ?hp (fun _ hk => hk) trivial (Below.refl _ _) (Nat.le_refl _) (by simp) ?_; (case hd => rfl); (case hg => rfl); (case hr => first | (go_simp; done) | (go_simp; rfl)); (case hp => exact (Reps.none _ _)); intro vz1 wz1 hoz1 hb hg_ hnew_; clear hg_ hnew_; (first | rw [← Ny101.out] at hoz1 | (simp only [Int.reduceToNat] at hoz1; rw [← Ny101.out] at hoz1)); have nz1 := Aside0.mk (Kd.R_lower hoz1 (below_size (hX HB.out))); have nz2 := Aside0.mk (below_step (hX HB.out) hb); clear HB; have HOz1 := nz1; have HB := nz2; clear nz1 nz2; clear hb hoz1) | (go_at_call 13; (with_reducible refine (spec_RowsIn.calls _ _ l0 t104 t107 _ ?side1 ?side2 A2.out).mono ?_); (case side1 => repeat (first | exact (Kd.C_below HR0.out HB.out) | (with_reducible refine Kd.C_alloc ?_ _) | (with_reducible refine Kd.C_drewN ?_ _) | (with_reducible refine Kd.C_drew ?_))); (case side2 => exact HC0.out); rintro e wz2 ⟨vz2, rfl, hoz2, hb⟩; have nz1 := Aside0.mk (Kd.R_elder' (rX HOz1.out) (Kd.R_base hoz2) hb); have nz2 := Aside0.mk (Kd.R_lower (Kd.R_new' hoz2 (Kd.R_lt (rX HOz1.out))) (below_size (hX HB.out))); have nz3 := Aside0.mk (below_step (hX HB.out) hb); clear HOz1; clear HB; have HOz1 := nz1; have HOz2 := nz2; have HB := nz3; clear nz1 nz2 nz3; (try clear hb); (try clear hb2); (try clear hk); (try clear hi); (try clear hoz2); obtain ⟨Aoz1, coz1, eoz1⟩ := Kd.R_slice HOz2.out; subst eoz1) | (go_at_call 37; (with_reducible refine (spec_WordsOf.calls k _ _ t104 t107 t108 _ ?side1 ?side2 A3.out).mono ?_); (case side1 => repeat (first | exact (Kd.R_reads' HOz2.out).2.2 | (with_reducible refine Kd.C_alloc ?_ _) | (with_reducible refine Kd.C_drewN ?_ _) | (with_reducible refine Kd.C_drew ?_))); (case side2 => exact (Kd.R_reads' HOz2.out).2.1); rintro e wz3 ⟨vz3, rfl, hoz2, hb⟩; have nz1 := Aside0.mk (Kd.R_elder' (rX HOz1.out) (Kd.R_base hoz2) hb); have nz2 := Aside0.mk (Kd.R_elder' (rX HOz2.out) (Kd.R_base hoz2) hb); have nz3 := Aside0.mk (Kd.R_lower (Kd.R_new' (Kd.R_new' hoz2 (Kd.R_lt (rX HOz1.out))) (Kd.R_lt (rX HOz2.out))) (below_size (hX HB.out))); have nz4 := Aside0.mk (below_step (hX HB.out) hb); clear HOz1; clear HOz2; clear HB; have HOz1 := nz1; have HOz2 := nz2; have HOz3 := nz3; have HB := nz4; clear nz1 nz2 nz3 nz4; (try clear hb); (try clear hb2); (try clear hk); (try clear hi); (try clear hoz2))); try go_wp2_with (first | ((with_reducible refine gate_dst (N := 6) rfl ?_); (try (refine gate_guard (by rfl) ?_; dsimp only)); refine Kd.R_lit (Kd.int .i64) _ 3 ?hg (N := 6) ?hd (xs := ([] : List Int)) (inner := []) (ok := fun _ => True) (okp := fun _ => True) ?hr ?hp (fun _ hk => hk) trivial (Below.refl _ _) (Nat.le_refl _) (by simp) ?_; (case hd => rfl); (case hg => rfl); (case hr => first | (go_simp; done) | (go_simp; rfl)); (case hp => exact (Reps.none _ _)); intro vz1 wz1 hoz1 hb hg_ hnew_; clear hg_ hnew_; (first | rw [← Ny101.out] at hoz1 | (simp only [Int.reduceToNat] at hoz1; rw [← Ny101.out] at hoz1)); have nz1 := Aside0.mk (Kd.R_lower hoz1 (below_size (hX HB.out))); have nz2 := Aside0.mk (below_step (hX HB.out) hb); clear HB; have HOz1 := nz1; have HB := nz2; clear nz1 nz2; clear hb hoz1) | (go_at_call 13; (with_reducible refine (spec_RowsIn.calls _ _ l0 t104 t107 _ ?side1 ?side2 A2.out).mono ?_); (case side1 => repeat (first | exact (Kd.C_below HR0.out HB.out) | (with_reducible refine Kd.C_alloc ?_ _) | (with_reducible refine Kd.C_drewN ?_ _) | (with_reducible refine Kd.C_drew ?_))); (case side2 => exact HC0.out); rintro e wz2 ⟨vz2, rfl, hoz2, hb⟩; have nz1 := Aside0.mk (Kd.R_elder' (rX HOz1.out) (Kd.R_base hoz2) hb); have nz2 := Aside0.mk (Kd.R_lower (Kd.R_new' hoz2 (Kd.R_lt (rX HOz1.out))) (below_size (hX HB.out))); have nz3 := Aside0.mk (below_step (hX HB.out) hb); clear HOz1; clear HB; have HOz1 := nz1; have HOz2 := nz2; have HB := nz3; clear nz1 nz2 nz3; (try clear hb); (try clear hb2); (try clear hk); (try clear hi); (try clear hoz2); obtain ⟨Aoz1, coz1, eoz1⟩ := Kd.R_slice HOz2.out; subst eoz1) | (go_at_call 37; (with_reducible refine (spec_WordsOf.calls k _ _ t104 t107 t108 _ ?side1 ?side2 A3.out).mono ?_); (case side1 => repeat (first | exact (Kd.R_reads' HOz2.out).2.2 | (with_reducible refine Kd.C_alloc ?_ _) | (with_reducible refine Kd.C_drewN ?_ _) | (with_reducible refine Kd.C_drew ?_))); (case side2 => exact (Kd.R_reads' HOz2.out).2.1); rintro e wz3 ⟨vz3, rfl, hoz2, hb⟩; have nz1 := Aside0.mk (Kd.R_elder' (rX HOz1.out) (Kd.R_base hoz2) hb); have nz2 := Aside0.mk (Kd.R_elder' (rX HOz2.out) (Kd.R_base hoz2) hb); have nz3 := Aside0.mk (Kd.R_lower (Kd.R_new' (Kd.R_new' hoz2 (Kd.R_lt (rX HOz1.out))) (Kd.R_lt (rX HOz2.out))) (below_size (hX HB.out))); have nz4 := Aside0.mk (below_step (hX HB.out) hb); clear HOz1; clear HOz2; clear HB; have HOz1 := nz1; have HOz2 := nz2; have HOz3 := nz3; have HB := nz4; clear nz1 nz2 nz3 nz4; (try clear hb); (try clear hb2); (try clear hk); (try clear hi); (try clear hoz2))))
  go_loopg [3, 5] k (fun kq v3 v5 w' => ∃ (x3_1 : List Int) (x5_1 : Int), v5 = .int .i64 x5_1 ∧ Aside0 (spec_Stray.l0 kq l0 x3_1 t108 x5_1 = some r) ∧ Aside0 (kq ≤ k) ∧ Aside0 (Kd.R (Kd.int .i64) 3 w' w.heap.size (fun k_ => some k_ ≠ (vz3 : Value).ownBlock) v3 x3_1) ∧ Aside0 (Kd.R (Kd.int .i64) 3 w' w.heap.size (fun k_ => some k_ ≠ (v3 : Value).ownBlock) vz3 t108) ∧ Aside0 (Below w.heap.size w w'))
  case atStart => exact ⟨(y101), (0), rS, H', ⟨Nat.le_refl _⟩, ⟨(rT (h := by exact Kd.R_mono HOz1.out (fun _ hk => hk.2)))⟩, ⟨(rT (h := by exact Kd.R_mono HOz3.out (fun _ hk => hk.1.2)))⟩, ⟨(hX HB.out)⟩⟩
  case round =>
    clear H'
    try clear c2
    try clear p2
    obtain ⟨x3_1, x5_1, rfl, HA, HKy1, HO_y1, HO_y2, HB⟩ := hrel
    cases gk with
    | zero => exact absurd HA.out (by simp [spec_Stray.l0])
    | succ k1 =>
      have H := HA.out
      clear HA
      simp only [spec_Stray.l0] at H
      have HC9 := Aside0.mk H
      clear H
      go_upto_region 4 with (fail)
      repeat (go_quiet (fail); go_upto_region 4 with (fail))
      go_cut [19] (fun vx1 wc => ∃ (kq : Nat) (x19_8 : Bool), vx1 = .bool x19_8 ∧ Aside0 (spec_Stray.j1 kq l0 x3_1 t108 x5_1 x19_8 = some r) ∧ Aside0 (kq ≤ k1) ∧ Aside0 (Kd.R (Kd.int .i64) 3 wc w.heap.size (fun k_ => some k_ ≠ (vz3 : Value).ownBlock) u3 x3_1) ∧ Aside0 (Kd.R (Kd.int .i64) 3 wc w.heap.size (fun k_ => some k_ ≠ (u3 : Value).ownBlock) vz3 t108) ∧ Aside0 (Below w.heap.size w wc))
      case first =>
        have H := HC9.out
        clear HC9
        by_cases c10 : x5_1 < (t108.length : Int)
        · rw [if_pos c10] at H
          have c10b0 := decide_eq_true c10
          clear c10
          (first | rw [c10b0] | (simp only [i64_w, i32_w]; rw [c10b0]) | skip)
          have H' := Aside0.mk H
          clear H
          obtain ⟨Aow1, cow1, eow1⟩ := Kd.R_slice HO_y2.out
          subst eow1
          go_wp2
          repeat (go_quiet (fail); try go_wp2)
          go_meet
          case rel => exact ⟨_, (decide (x5_1 < (l0.length : Int))), rS, H', ⟨by have := HKy1.out; first | omega | exact Nat.le_refl _⟩, ⟨(rX HO_y1.out)⟩, ⟨(rX HO_y2.out)⟩, ⟨(hX HB.out)⟩⟩
        · rw [if_neg c10] at H
          have c10b0 := decide_eq_false c10
          clear c10
          (first | rw [c10b0] | (simp only [i64_w, i32_w]; rw [c10b0]) | skip)
          have H' := Aside0.mk H
          clear H
          obtain ⟨Aow1, cow1, eow1⟩ := Kd.R_slice HO_y2.out
          subst eow1
          go_wp2
          repeat (go_quiet (fail); try go_wp2)
          go_meet
          case rel => exact ⟨_, (false), rS, H', ⟨by have := HKy1.out; first | omega | exact Nat.le_refl _⟩, ⟨(rX HO_y1.out)⟩, ⟨(rX HO_y2.out)⟩, ⟨(hX HB.out)⟩⟩
      case rest =>
        clear HC9
        try clear c1
        try clear c2
        try clear p2
        try clear c10
        try clear c10b0
        try clear p2
        obtain ⟨kq, x19_8, rfl, HA, HJw1, HO_y1, HO_y2, HB⟩ := hcut
        cases kq with
        | zero => exact absurd HA.out (by simp [spec_Stray.j1])
        | succ kj8 =>
          have H := HA.out
          clear HA
          simp only [spec_Stray.j1] at H
          by_cases c13 : x19_8 = true
          · subst c13
            rw [if_pos rfl] at H
            replace H := ifP H; obtain ⟨c14, H⟩ := H
            have c14b0 := decide_eq_true c14
            clear c14
            replace H := ifP H; obtain ⟨c15, H⟩ := H
            have c15b0 := decide_eq_true c15
            clear c15
            replace H := ifP H; obtain ⟨c16, H⟩ := H
            have c16b0 := decide_eq_true c16
            clear c16
            by_cases c17 : (rd l0 x5_1) = (rd t108 x5_1)
            · rw [if_pos c17] at H
              obtain ⟨c17b0, c17b1⟩ := eqT c17
              clear c17
              have H' := Aside0.mk H
              clear H
              have pv1 : 0 ≤ (x5_1 : Int) := of_decide_eq_true (by first | (with_reducible assumption) | assumption)
              have qv1 : x5_1 < (l0.length : Int) := of_decide_eq_true (by first | (with_reducible assumption) | assumption)
              obtain ⟨adv1, ev1, hxv1⟩ := Kd.at_int HR0.out x5_1 pv1 qv1
              cases ev1
              replace hxv1 := (HB.out.cell (World.block_lt_of_cell? w _ hxv1)).trans hxv1
              replace pv1 := eq_true pv1
              replace qv1 := eq_true qv1
              obtain ⟨Aov1, cov1, eov1⟩ := Kd.R_slice HO_y2.out
              subst eov1
              have pv2 : 0 ≤ (x5_1 : Int) := of_decide_eq_true (by first | (with_reducible assumption) | assumption)
              have qv2 : x5_1 < (t108.length : Int) := of_decide_eq_true (by first | (with_reducible assumption) | assumption)
              obtain ⟨adv2, ev2, hxv2⟩ := Kd.at_int (Kd.R_reads' HO_y2.out).2.2 x5_1 pv2 qv2
              cases ev2
              replace pv2 := eq_true pv2
              replace qv2 := eq_true qv2
              go_wp2
              repeat (go_quiet (fail); try go_wp2)
              go_roundg kj8
              case measure => have := HKy1.out; have := HJw1.out; omega
              case rel => exact ⟨(x3_1), (wrap64 (x5_1 + 1)), rS, H', ⟨by have := HKy1.out; have := HJw1.out; omega⟩, ⟨(rX HO_y1.out)⟩, ⟨(rX HO_y2.out)⟩, ⟨(hX HB.out)⟩⟩
            · rw [if_neg c17] at H
              obtain ⟨c17b0, c17b1⟩ := eqF c17
              replace H := ifP H; obtain ⟨c19, H⟩ := H
              have LMc19 := Aside0.mk c19
              clear c19
              obtain ⟨y113, hy113⟩ : ∃ y_ : List Int, y_ = (x3_1 ++ [x5_1]) := ⟨_, rfl⟩
              replace H : (spec_Stray.l0 kj8 l0 y113 t108 (wrap64 (x5_1 + 1))) = some r := yH H hy113
              have Ny113 := Aside0.mk hy113
              clear hy113
              have H' := Aside0.mk H
              clear H
              have pv1 : 0 ≤ (x5_1 : Int) := of_decide_eq_true (by first | (with_reducible assumption) | assumption)
              have qv1 : x5_1 < (l0.length : Int) := of_decide_eq_true (by first | (with_reducible assumption) | assumption)
              obtain ⟨adv1, ev1, hxv1⟩ := Kd.at_int HR0.out x5_1 pv1 qv1
              cases ev1
              replace hxv1 := (HB.out.cell (World.block_lt_of_cell? w _ hxv1)).trans hxv1
              replace pv1 := eq_true pv1
              replace qv1 := eq_true qv1
              obtain ⟨Aov1, cov1, eov1⟩ := Kd.R_slice HO_y2.out
              subst eov1
              have pv2 : 0 ≤ (x5_1 : Int) := of_decide_eq_true (by first | (with_reducible assumption) | assumption)
              have qv2 : x5_1 < (t108.length : Int) := of_decide_eq_true (by first | (with_reducible assumption) | assumption)
              obtain ⟨adv2, ev2, hxv2⟩ := Kd.at_int (Kd.R_reads' HO_y2.out).2.2 x5_1 pv2 qv2
              cases ev2
              replace pv2 := eq_true pv2
              replace qv2 := eq_true qv2
              go_wp2_with (first | ((with_reducible refine gate_builtin (b := .append) (xs := #[.tmp 31, .tmp 33]) rfl ?_); (try (refine gate_guard (by rfl) ?_; dsimp only)); at_builtin; refine Kd.R_append (Kd.int .i64) (w0 := w) w.heap.size rfl (.tmp 31) (.tmp 33) 22 3 (.int .i64 0) 8 rfl Try.underlying22 info3 rfl (by decide) (by omega) u3 x3_1 x5_1 [.int .i64 x5_1] (fun k_ => some k_ ≠ (.slice (some adv2) t108.length cov1 : Value).ownBlock) (fun _ => False) rfl rfl ?aP (fun _ hk => hk.elim) ?aF ?aO ?aB ?aS ?aL ?_; (case aP => exact rfl); (case aB => exact (hX HB.out)); (case aF => exact (fun k_ hk => Kd.fresh' (Kd.R_lt (rX HO_y2.out)) k_ hk)); (case aO => exact (rX HO_y1.out)); (case aS => exact (below_size (hX HB.out))); (case aL => have := LMc19.out; omega); intro vv1 wv1 ho hb hg hat; rw [← Ny113.out] at ho; have HOv1 := Aside0.mk (ho); replace HO_y2 := Aside0.mk (Kd.R_after (ok := (fun _ => True)) (rT (h := by exact Kd.R_mono HO_y2.out (fun _ hk => ⟨trivial, hk⟩))) hg hat); replace HB := Aside0.mk (hb); clear HO_y1; clear ho hb hg hat))
              repeat (go_quiet (first | ((with_reducible refine gate_builtin (b := .append) (xs := #[.tmp 31, .tmp 33]) rfl ?_); (try (refine gate_guard (by rfl) ?_; dsimp only)); at_builtin; refine Kd.R_append (Kd.int .i64) (w0 := w) w.heap.size rfl (.tmp 31) (.tmp 33) 22 3 (.int .i64 0) 8 rfl Try.underlying22 info3 rfl (by decide) (by omega) u3 x3_1 x5_1 [.int .i64 x5_1] (fun k_ => some k_ ≠ (.slice (some adv2) t108.length cov1 : Value).ownBlock) (fun _ => False) rfl rfl ?aP (fun _ hk => hk.elim) ?aF ?aO ?aB ?aS ?aL ?_; (case aP => exact rfl); (case aB => exact (hX HB.out)); (case aF => exact (fun k_ hk => Kd.fresh' (Kd.R_lt (rX HO_y2.out)) k_ hk)); (case aO => exact (rX HO_y1.out)); (case aS => exact (below_size (hX HB.out))); (case aL => have := LMc19.out; omega); intro vv1 wv1 ho hb hg hat; rw [← Ny113.out] at ho; have nz1 := Aside0.mk (Kd.R_after (ok := (fun _ => True)) (rT (h := by exact Kd.R_mono HO_y2.out (fun _ hk => ⟨trivial, hk⟩))) hg hat); have nz2 := Aside0.mk (hb); have nz3 := Aside0.mk (ho); clear HO_y2; clear HB; clear HO_y1; have HO_y2 := nz1; have HB := nz2; have HOv1 := nz3; clear nz1 nz2 nz3; clear ho hb hg hat)); try go_wp2_with (first | ((with_reducible refine gate_builtin (b := .append) (xs := #[.tmp 31, .tmp 33]) rfl ?_); (try (refine gate_guard (by rfl) ?_; dsimp only)); at_builtin; refine Kd.R_append (Kd.int .i64) (w0 := w) w.heap.size rfl (.tmp 31) (.tmp 33) 22 3 (.int .i64 0) 8 rfl Try.underlying22 info3 rfl (by decide) (by omega) u3 x3_1 x5_1 [.int .i64 x5_1] (fun k_ => some k_ ≠ (.slice (some adv2) t108.length cov1 : Value).ownBlock) (fun _ => False) rfl rfl ?aP (fun _ hk => hk.elim) ?aF ?aO ?aB ?aS ?aL ?_; (case aP => exact rfl); (case aB => exact (hX HB.out)); (case aF => exact (fun k_ hk => Kd.fresh' (Kd.R_lt (rX HO_y2.out)) k_ hk)); (case aO => exact (rX HO_y1.out)); (case aS => exact (below_size (hX HB.out))); (case aL => have := LMc19.out; omega); intro vv1 wv1 ho hb hg hat; rw [← Ny113.out] at ho; have nz1 := Aside0.mk (Kd.R_after (ok := (fun _ => True)) (rT (h := by exact Kd.R_mono HO_y2.out (fun _ hk => ⟨trivial, hk⟩))) hg hat); have nz2 := Aside0.mk (hb); have nz3 := Aside0.mk (ho); clear HO_y2; clear HB; clear HO_y1; have HO_y2 := nz1; have HB := nz2; have HOv1 := nz3; clear nz1 nz2 nz3; clear ho hb hg hat)))
              go_roundg kj8
              case measure => have := HKy1.out; have := HJw1.out; omega
              case rel => exact ⟨(y113), (wrap64 (x5_1 + 1)), rS, H', ⟨by have := HKy1.out; have := HJw1.out; omega⟩, ⟨(rX HOv1.out)⟩, ⟨(rT (h := by exact Kd.R_mono HO_y2.out (fun _ hk => hk.2)))⟩, ⟨(hX HB.out)⟩⟩
          · replace c13 := Bool.eq_false_iff.mpr c13
            subst c13
            rw [if_neg nft] at H
            obtain rfl := Option.some.inj H
            go_wp2
            repeat (go_quiet (fail); try go_wp2)
            go_ret
            exact ⟨_, rE, (rT (h := by exact Kd.R_mono HO_y1.out (fun _ hk => trivial))), (hX HB.out)⟩
end Go.Proofs.Yteamagejhbkhnaa.P
namespace Go.Proofs.Yteamagejhbkhnaa.P
open Go.Proofs.YteamagejhbkhnaaZ Go.RowKit Go.Proofs.YteamagejhbkhnaaW.PrintWords Go.Proofs.YteamagejhbkhnaaW.PrintLast Go.Proofs.YteamagejhbkhnaaW.PrintMore
attribute [local go_sem] max2_int min2_int max_two min_two max_three min_three max_four min_four   -- for this text's walks alone
set_option linter.unusedVariables false
set_option linter.unusedSimpArgs false
def impl_Stray.l0 : Nat → List Int → List Int → List Int → Int → Int → Option (List Int)
  | 0, _, _, _, _, _ => none
  | k + 1, x0, x3, x9, x10, x11 => if x11 < x10 then (if 0 ≤ x11 then (if x11 < (x9.length : Int) then (if x11 < (x0.length : Int) then (if (rd x0 x11) = (rd x9 x11) then (impl_Stray.l0 k x0 x3 x9 x10 (wrap64 (x11 + 1))) else (if x3.length < 17592186044416 then (impl_Stray.l0 k x0 (x3 ++ [x11]) x9 x10 (wrap64 (x11 + 1))) else (none))) else (none)) else (none)) else (none)) else (some x3)
def impl_Stray.f (k : Nat) (l0 : List Int) : Option (List Int) := (impl_RowsIn.f l0).bind fun bt104 => ((impl_WordsOf.f k bt104.1 bt104.2).bind fun t108 => (impl_Stray.l0 k l0 (([] : List Int)) t108 (t108.length : Int) 0))
set_option maxHeartbeats 8000000 in
set_option maxRecDepth 100000 in
theorem impl_Stray.calls (k : Nat) (A0 : Option Addr) (c0 : Nat) (l0 : List Int) (r : List Int) (w : World) (hr0 : Kd.C (Kd.int .i64) w A0 l0.length l0) (hc0 : l0.length ≤ c0) (h : impl_Stray.f k l0 = some r) :
    Calls Try.prog 24 #[.slice A0 l0.length c0] w fun e w' => ∃ v0_ : Value, e = .returned (v0_) ∧ Kd.R (Kd.int .i64) 3 w' w.heap.size (fun _ => True) v0_ r ∧ Below w.heap.size w w' := by
  have HR0 := Aside0.mk hr0
  have HC0 := Aside0.mk hc0
  clear hr0 hc0
  have HB := Aside0.mk (Below.refl w.heap.size w)
  have H := h
  unfold impl_Stray.f at H
  clear h
  obtain ⟨y101, hy101⟩ : ∃ y_ : List Int, y_ = (([] : List Int)) := ⟨_, rfl⟩
  replace H : ((impl_RowsIn.f l0).bind fun bt104 => ((impl_WordsOf.f k bt104.1 bt104.2).bind fun t108 => (impl_Stray.l0 k l0 y101 t108 (t108.length : Int) 0))) = some r := yH H hy101
  have Ny101 := Aside0.mk hy101
  clear hy101
  replace H := bE H; obtain ⟨⟨t104, t107⟩, A2, H⟩ := H
  try dsimp only at H
  replace H := bE H; obtain ⟨t108, A3, H⟩ := H
  have H' := Aside0.mk H
  clear H
  go_enter Try.func24, Try.ntmps24
  go_wp2_with (first | ((with_reducible refine gate_dst (N := 6) rfl ?_); refine Kd.R_lit (Kd.int .i64) _ 3 ?hg (N := 6) ?hd (xs := ([] : List Int)) (inner := []) (ok := fun _ => True) (okp := fun _ => True) ?hr ?hp (fun _ hk => hk) trivial (Below.refl _ _) (Nat.le_refl _) (by simp) ?_; (case hd => rfl); (case hg => rfl); (case hr => first | (go_simp; done) | (go_simp; rfl)); (case hp => exact (Reps.none _ _)); intro vz1 wz1 hoz1 hb hg_ hnew_; clear hg_ hnew_; (first | rw [← Ny101.out] at hoz1 | (simp only [Int.reduceToNat] at hoz1; rw [← Ny101.out] at hoz1)); have HOz1 := Aside0.mk (Kd.R_lower hoz1 (below_size (hX HB.out))); replace HB := Aside0.mk (below_step (hX HB.out) hb); clear hb hoz1) | (refine goesM 15 8 Try.func15 #[.slice A0 l0.length c0] ?_; refine (impl_RowsIn.calls _ _ l0 t104 t107 _ (cC HR0.out HB.out) HC0.out A2.out).mono ?_; rintro e wz2 ⟨vz2, rfl, hoz2, hb⟩; refine ⟨_, rfl, ?_⟩; have HOz2 := Aside0.mk (Kd.R_lower (Kd.R_new' hoz2 (Kd.R_lt (rX HOz1.out))) (below_size (hX HB.out))); replace HOz1 := Aside0.mk (Kd.R_elder' (rX HOz1.out) (Kd.R_base hoz2) hb); replace HB := Aside0.mk (below_step (hX HB.out) hb); clear hb hoz2; obtain ⟨Aoz1, coz1, eoz1⟩ := Kd.R_slice HOz2.out; subst eoz1) | (refine goesM 32 9 Try.func32 #[.agg #[.slice Aoz1 t104.length coz1, .int .i64 t107]] ?_; refine (impl_WordsOf.calls k _ _ t104 t107 t108 _ (cX (Kd.R_reads' HOz2.out).2.2) ((Kd.R_reads' HOz2.out).2.1) A3.out).mono ?_; rintro e wz3 ⟨vz3, rfl, hoz2, hb⟩; refine ⟨_, rfl, ?_⟩; have HOz3 := Aside0.mk (Kd.R_lower (Kd.R_new' (Kd.R_new' hoz2 (Kd.R_lt (rX HOz1.out))) (Kd.R_lt (rX HOz2.out))) (below_size (hX HB.out))); replace HOz1 := Aside0.mk (Kd.R_elder' (rX HOz1.out) (Kd.R_base hoz2) hb); replace HOz2 := Aside0.mk (Kd.R_elder' (rX HOz2.out) (Kd.R_base hoz2) hb); replace HB := Aside0.mk (below_step (hX HB.out) hb); clear hb hoz2; obtain ⟨Aoz2, coz2, eoz2⟩ := Kd.R_slice HOz3.out; subst eoz2))
  go_loopg [3, 11] k (fun kq v3 v11 w' => ∃ (x3_1 : List Int) (x11_1 : Int), v11 = .int .i64 x11_1 ∧ Aside0 (impl_Stray.l0 kq l0 x3_1 t108 (t108.length : Int) x11_1 = some r) ∧ Aside0 (kq ≤ k) ∧ Aside0 (Kd.R (Kd.int .i64) 3 w' w.heap.size (fun k_ => some k_ ≠ ((.slice Aoz2 t108.length coz2) : Value).ownBlock) v3 x3_1) ∧ Aside0 (Kd.R (Kd.int .i64) 3 w' w.heap.size (fun k_ => some k_ ≠ (v3 : Value).ownBlock) (.slice Aoz2 t108.length coz2) t108) ∧ Aside0 (Below w.heap.size w w'))
  case atStart => exact ⟨(y101), (0), rS, H', ⟨Nat.le_refl _⟩, ⟨(rT (h := by exact Kd.R_mono HOz1.out (fun _ hk => hk.2)))⟩, ⟨(rT (h := by exact Kd.R_mono HOz3.out (fun _ hk => hk.1.2)))⟩, ⟨(hX HB.out)⟩⟩
  case round =>
    clear H'
    try clear c1
    try clear c2
    try clear p2
    try clear c3
    obtain ⟨x3_1, x11_1, rfl, HA, HKy1, HO_y1, HO_y2, HB⟩ := hrel
    cases gk with
    | zero => exact absurd HA.out (by simp [impl_Stray.l0])
    | succ k1 =>
      have H := HA.out
      clear HA
      simp only [impl_Stray.l0] at H
      by_cases c10 : x11_1 < (t108.length : Int)
      · rw [if_pos c10] at H
        have c10b0 := decide_eq_true c10
        clear c10
        replace H := ifP H; obtain ⟨c11, H⟩ := H
        have c11b0 := decide_eq_true c11
        clear c11
        replace H := ifP H; obtain ⟨c12, H⟩ := H
        have c12b0 := decide_eq_true c12
        clear c12
        replace H := ifP H; obtain ⟨c13, H⟩ := H
        have c13b0 := decide_eq_true c13
        clear c13
        by_cases c14 : (rd l0 x11_1) = (rd t108 x11_1)
        · rw [if_pos c14] at H
          obtain ⟨c14b0, c14b1⟩ := eqT c14
          clear c14
          have H' := Aside0.mk H
          clear H
          have px1 : 0 ≤ (x11_1 : Int) := of_decide_eq_true (by first | (with_reducible assumption) | assumption)
          have qx1 : x11_1 < (t108.length : Int) := of_decide_eq_true (by first | (with_reducible assumption) | assumption)
          obtain ⟨adx1, ex1, hxx1⟩ := Kd.at_int (Kd.R_reads' HO_y2.out).2.2 x11_1 px1 qx1
          cases ex1
          replace px1 := eq_true px1
          replace qx1 := eq_true qx1
          have px2 : 0 ≤ (x11_1 : Int) := of_decide_eq_true (by first | (with_reducible assumption) | assumption)
          have qx2 : x11_1 < (l0.length : Int) := of_decide_eq_true (by first | (with_reducible assumption) | assumption)
          obtain ⟨adx2, ex2, hxx2⟩ := Kd.at_int HR0.out x11_1 px2 qx2
          cases ex2
          replace hxx2 := (HB.out.cell (World.block_lt_of_cell? w _ hxx2)).trans hxx2
          replace px2 := eq_true px2
          replace qx2 := eq_true qx2
          go_wp2
          go_roundg k1
          case measure => have := HKy1.out; omega
          case rel => exact ⟨(x3_1), (wrap64 (x11_1 + 1)), rS, H', ⟨by have := HKy1.out; omega⟩, ⟨(rX HO_y1.out)⟩, ⟨(rX HO_y2.out)⟩, ⟨(hX HB.out)⟩⟩
        · rw [if_neg c14] at H
          obtain ⟨c14b0, c14b1⟩ := eqF c14
          replace H := ifP H; obtain ⟨c15, H⟩ := H
          have LMc15 := Aside0.mk c15
          clear c15
          obtain ⟨y113, hy113⟩ : ∃ y_ : List Int, y_ = (x3_1 ++ [x11_1]) := ⟨_, rfl⟩
          replace H : (impl_Stray.l0 k1 l0 y113 t108 (t108.length : Int) (wrap64 (x11_1 + 1))) = some r := yH H hy113
          have Ny113 := Aside0.mk hy113
          clear hy113
          have H' := Aside0.mk H
          clear H
          have px1 : 0 ≤ (x11_1 : Int) := of_decide_eq_true (by first | (with_reducible assumption) | assumption)
          have qx1 : x11_1 < (t108.length : Int) := of_decide_eq_true (by first | (with_reducible assumption) | assumption)
          obtain ⟨adx1, ex1, hxx1⟩ := Kd.at_int (Kd.R_reads' HO_y2.out).2.2 x11_1 px1 qx1
          cases ex1
          replace px1 := eq_true px1
          replace qx1 := eq_true qx1
          have px2 : 0 ≤ (x11_1 : Int) := of_decide_eq_true (by first | (with_reducible assumption) | assumption)
          have qx2 : x11_1 < (l0.length : Int) := of_decide_eq_true (by first | (with_reducible assumption) | assumption)
          obtain ⟨adx2, ex2, hxx2⟩ := Kd.at_int HR0.out x11_1 px2 qx2
          cases ex2
          replace hxx2 := (HB.out.cell (World.block_lt_of_cell? w _ hxx2)).trans hxx2
          replace px2 := eq_true px2
          replace qx2 := eq_true qx2
          go_wp2_with (first | ((with_reducible refine gate_builtin (b := .append) (xs := #[.tmp 22, .tmp 24]) rfl ?_); at_builtin; refine Kd.R_append (Kd.int .i64) (w0 := w) w.heap.size rfl (.tmp 22) (.tmp 24) 22 3 (.int .i64 0) 8 rfl Try.underlying22 info3 rfl (by decide) (by omega) u3 x3_1 x11_1 [.int .i64 x11_1] (fun k_ => some k_ ≠ (.slice (some adx1) t108.length coz2 : Value).ownBlock) (fun _ => False) rfl rfl ?aP (fun _ hk => hk.elim) ?aF ?aO ?aB ?aS ?aL ?_; (case aP => exact rfl); (case aB => exact (hX HB.out)); (case aF => exact (fun k_ hk => Kd.fresh' (Kd.R_lt (rX HO_y2.out)) k_ hk)); (case aO => exact (rX HO_y1.out)); (case aS => exact (below_size (hX HB.out))); (case aL => have := LMc15.out; omega); intro vx1 wx1 ho hb hg hat; rw [← Ny113.out] at ho; have HOx1 := Aside0.mk (ho); replace HO_y2 := Aside0.mk (Kd.R_after (ok := (fun _ => True)) (rT (h := by exact Kd.R_mono HO_y2.out (fun _ hk => ⟨trivial, hk⟩))) hg hat); replace HB := Aside0.mk (hb); clear HO_y1; clear ho hb hg hat))
          go_roundg k1
          case measure => have := HKy1.out; omega
          case rel => exact ⟨(y113), (wrap64 (x11_1 + 1)), rS, H', ⟨by have := HKy1.out; omega⟩, ⟨(rX HOx1.out)⟩, ⟨(rT (h := by exact Kd.R_mono HO_y2.out (fun _ hk => hk.2)))⟩, ⟨(hX HB.out)⟩⟩
      · rw [if_neg c10] at H
        have c10b0 := decide_eq_false c10
        clear c10
        obtain rfl := Option.some.inj H
        go_wp2
        go_ret
        exact ⟨_, rE, (rT (h := by exact Kd.R_mono HO_y1.out (fun _ hk => trivial))), (hX HB.out)⟩
end Go.Proofs.Yteamagejhbkhnaa.P
namespace Go.Proofs.Yteamagejhbkhnaa.P
open Go.Proofs.YteamagejhbkhnaaZ Go.RowKit Go.Proofs.YteamagejhbkhnaaW.PrintWords Go.Proofs.YteamagejhbkhnaaW.PrintLast Go.Proofs.YteamagejhbkhnaaW.PrintMore
attribute [local go_sem] max2_int min2_int max_two min_two max_three min_three max_four min_four   -- for this text's walks alone
set_option linter.unusedVariables false
set_option linter.unusedSimpArgs false
def spec_l13Key.f (k : Nat) (l0 : List Int) (a1 : Int) : Option (Int × Bool) := (spec_Whole.f k l0).bind fun t101 => (if t101 = true then (if a1 < 0 then (some (0, false)) else (if 0 ≤ a1 then (if a1 < (l0.length : Int) then (if (rd l0 a1) = 0 then (some (0, false)) else (some (wrap64 ((rd l0 a1) - 1), true))) else (none)) else (none))) else (some (0, false)))
set_option maxHeartbeats 8000000 in
set_option maxRecDepth 100000 in
theorem spec_l13Key.calls (k : Nat) (A0 : Option Addr) (c0 : Nat) (l0 : List Int) (a1 : Int) (r1 : Int) (r2 : Bool) (w : World) (hr0 : Kd.C (Kd.int .i64) w A0 l0.length l0) (hc0 : l0.length ≤ c0) (h : spec_l13Key.f k l0 a1 = some (r1, r2)) :
    Calls Try.prog 79 #[.slice A0 l0.length c0, .int .i64 a1] w fun e w' => e = .returned (.tuple #[.int .i64 r1, .bool r2]) ∧ Below w.heap.size w w' := by
  have HR0 := Aside0.mk hr0
  have HC0 := Aside0.mk hc0
  clear hr0 hc0
  have HB := Aside0.mk (Below.refl w.heap.size w)
  have H := h
  unfold spec_l13Key.f at H
  clear h
  replace H := bE H; obtain ⟨t101, A3, H⟩ := H
  go_enter Try.func79, Try.ntmps79
  by_cases c4 : t101 = true
  · subst c4
    rw [if_pos rfl] at H
    by_cases c5 : a1 < 0
    · rw [if_pos c5] at H
      have c5b0 := decide_eq_true c5
      clear c5
      simp only [Option.some.injEq, Prod.mk.injEq] at H
      obtain ⟨rfl, rfl⟩ := H
      go_wp2_with (first | (refine goesM 21 7 Try.func21 #[.slice A0 l0.length c0] ?_; refine (spec_Whole.calls k _ _ l0 true _ (cX HR0.out) HC0.out A3.out).mono ?_; rintro e wz1 ⟨rfl, hb⟩; refine ⟨_, rfl, ?_⟩; replace HB := Aside0.mk (below_step (hX HB.out) hb); clear hb))
      go_ret2
      exact ⟨rE, (hX HB.out)⟩
    · rw [if_neg c5] at H
      have c5b0 := decide_eq_false c5
      clear c5
      replace H := ifP H; obtain ⟨c7, H⟩ := H
      have c7b0 := decide_eq_true c7
      clear c7
      replace H := ifP H; obtain ⟨c8, H⟩ := H
      have c8b0 := decide_eq_true c8
      clear c8
      by_cases c9 : (rd l0 a1) = 0
      · rw [if_pos c9] at H
        obtain ⟨c9b0, c9b1⟩ := eqT c9
        clear c9
        simp only [Option.some.injEq, Prod.mk.injEq] at H
        obtain ⟨rfl, rfl⟩ := H
        go_wp2_with (first | (refine goesM 21 7 Try.func21 #[.slice A0 l0.length c0] ?_; refine (spec_Whole.calls k _ _ l0 true _ (cX HR0.out) HC0.out A3.out).mono ?_; rintro e wz1 ⟨rfl, hb⟩; refine ⟨_, rfl, ?_⟩; replace HB := Aside0.mk (below_step (hX HB.out) hb); clear hb; have pz1 : 0 ≤ (a1 : Int) := of_decide_eq_true (by first | (with_reducible assumption) | assumption); have qz1 : a1 < (l0.length : Int) := of_decide_eq_true (by first | (with_reducible assumption) | assumption); obtain ⟨adz1, ez1, hxz1⟩ := Kd.at_int HR0.out a1 pz1 qz1; cases ez1; replace hxz1 := (HB.out.cell (World.block_lt_of_cell? w _ hxz1)).trans hxz1; replace pz1 := eq_true pz1; replace qz1 := eq_true qz1))
        go_ret2
        exact ⟨rE, (hX HB.out)⟩
      · rw [if_neg c9] at H
        obtain ⟨c9b0, c9b1⟩ := eqF c9
        simp only [Option.some.injEq, Prod.mk.injEq] at H
        obtain ⟨rfl, rfl⟩ := H
        go_wp2_with (first | (refine goesM 21 7 Try.func21 #[.slice A0 l0.length c0] ?_; refine (spec_Whole.calls k _ _ l0 true _ (cX HR0.out) HC0.out A3.out).mono ?_; rintro e wz1 ⟨rfl, hb⟩; refine ⟨_, rfl, ?_⟩; replace HB := Aside0.mk (below_step (hX HB.out) hb); clear hb; have pz1 : 0 ≤ (a1 : Int) := of_decide_eq_true (by first | (with_reducible assumption) | assumption); have qz1 : a1 < (l0.length : Int) := of_decide_eq_true (by first | (with_reducible assumption) | assumption); obtain ⟨adz1, ez1, hxz1⟩ := Kd.at_int HR0.out a1 pz1 qz1; cases ez1; replace hxz1 := (HB.out.cell (World.block_lt_of_cell? w _ hxz1)).trans hxz1; replace pz1 := eq_true pz1; replace qz1 := eq_true qz1; have pz2 : 0 ≤ (a1 : Int) := of_decide_eq_true (by first | (with_reducible assumption) | assumption); have qz2 : a1 < (l0.length : Int) := of_decide_eq_true (by first | (with_reducible assumption) | assumption); obtain ⟨adz2, ez2, hxz2⟩ := Kd.at_int HR0.out a1 pz2 qz2; obtain rfl : adz1 = adz2 := (by injection ez2); replace hxz2 := (HB.out.cell (World.block_lt_of_cell? w _ hxz2)).trans hxz2; replace pz2 := eq_true pz2; replace qz2 := eq_true qz2))
        go_ret2
        exact ⟨rE, (hX HB.out)⟩
  · replace c4 := Bool.eq_false_iff.mpr c4
    subst c4
    rw [if_neg nft] at H
    simp only [Option.some.injEq, Prod.mk.injEq] at H
    obtain ⟨rfl, rfl⟩ := H
    go_wp2_with (first | (refine goesM 21 7 Try.func21 #[.slice A0 l0.length c0] ?_; refine (spec_Whole.calls k _ _ l0 false _ (cX HR0.out) HC0.out A3.out).mono ?_; rintro e wz1 ⟨rfl, hb⟩; refine ⟨_, rfl, ?_⟩; replace HB := Aside0.mk (below_step (hX HB.out) hb); clear hb))
    go_ret2
    exact ⟨rE, (hX HB.out)⟩
end Go.Proofs.Yteamagejhbkhnaa.P
namespace Go.Proofs.Yteamagejhbkhnaa.P
open Go.Proofs.YteamagejhbkhnaaZ Go.RowKit Go.Proofs.YteamagejhbkhnaaW.PrintWords Go.Proofs.YteamagejhbkhnaaW.PrintLast Go.Proofs.YteamagejhbkhnaaW.PrintMore
attribute [local go_sem] max2_int min2_int max_two min_two max_three min_three max_four min_four   -- for this text's walks alone
set_option linter.unusedVariables false
set_option linter.unusedSimpArgs false
def spec_Find.f (k : Nat) (l0 : List Int) (a1 : Int) : Option (Int × Bool) := (spec_OwnerAt.f a1).bind fun t101 => ((spec_l13Key.f k l0 t101).bind fun bt102 => (some (bt102.1, bt102.2)))
set_option maxHeartbeats 8000000 in
set_option maxRecDepth 100000 in
theorem spec_Find.calls (k : Nat) (A0 : Option Addr) (c0 : Nat) (l0 : List Int) (a1 : Int) (r1 : Int) (r2 : Bool) (w : World) (hr0 : Kd.C (Kd.int .i64) w A0 l0.length l0) (hc0 : l0.length ≤ c0) (h : spec_Find.f k l0 a1 = some (r1, r2)) :
    Calls Try.prog 26 #[.slice A0 l0.length c0, .int .i64 a1] w fun e w' => e = .returned (.tuple #[.int .i64 r1, .bool r2]) ∧ Below w.heap.size w w' := by
  have HR0 := Aside0.mk hr0
  have HC0 := Aside0.mk hc0
  clear hr0 hc0
  have HB := Aside0.mk (Below.refl w.heap.size w)
  have H := h
  unfold spec_Find.f at H
  clear h
  replace H := bE H; obtain ⟨t101, A3, H⟩ := H
  replace H := bE H; obtain ⟨⟨t102, t103⟩, A4, H⟩ := H
  try dsimp only at H
  simp only [Option.some.injEq, Prod.mk.injEq] at H
  obtain ⟨rfl, rfl⟩ := H
  go_enter Try.func26, Try.ntmps26
  go_wp2_with (first | (refine goesM 80 11 Try.func80 #[.int .i64 a1] ?_; refine (spec_OwnerAt.calls a1 t101 _ A3.out).mono ?_; rintro e w' ⟨rfl, ⟨nd, rfl⟩⟩; refine ⟨_, rfl, ?_⟩) | (refine goesM 79 12 Try.func79 #[.slice A0 l0.length c0, .int .i64 t101] ?_; refine (spec_l13Key.calls k _ _ l0 t101 t102 t103 _ (cX HR0.out) HC0.out A4.out).mono ?_; rintro e wz1 ⟨rfl, hb⟩; refine ⟨_, rfl, ?_⟩; replace HB := Aside0.mk (below_step (hX HB.out) hb); clear hb))
  go_ret2
  exact ⟨rE, (hX HB.out)⟩
end Go.Proofs.Yteamagejhbkhnaa.P
namespace Go.Proofs.Yteamagejhbkhnaa.P
open Go.Proofs.YteamagejhbkhnaaZ Go.RowKit Go.Proofs.YteamagejhbkhnaaW.PrintWords Go.Proofs.YteamagejhbkhnaaW.PrintLast Go.Proofs.YteamagejhbkhnaaW.PrintMore
attribute [local go_sem] max2_int min2_int max_two min_two max_three min_three max_four min_four   -- for this text's walks alone
set_option linter.unusedVariables false
set_option linter.unusedSimpArgs false
def impl_found.f (k : Nat) (l0 : List Int) (a1 : Int) : Option (Int × Bool) := (impl_Whole.f k l0).bind fun t101 => (if t101 = true then (if a1 < 0 then (some (0, false)) else (if 0 ≤ a1 then (if a1 < (l0.length : Int) then (if (rd l0 a1) = 0 then (some (0, false)) else (some (wrap64 ((rd l0 a1) - 1), true))) else (none)) else (none))) else (some (0, false)))
set_option maxHeartbeats 8000000 in
set_option maxRecDepth 100000 in
theorem impl_found.calls (k : Nat) (A0 : Option Addr) (c0 : Nat) (l0 : List Int) (a1 : Int) (r1 : Int) (r2 : Bool) (w : World) (hr0 : Kd.C (Kd.int .i64) w A0 l0.length l0) (hc0 : l0.length ≤ c0) (h : impl_found.f k l0 a1 = some (r1, r2)) :
    Calls Try.prog 81 #[.slice A0 l0.length c0, .int .i64 a1] w fun e w' => e = .returned (.tuple #[.int .i64 r1, .bool r2]) ∧ Below w.heap.size w w' := by
  have HR0 := Aside0.mk hr0
  have HC0 := Aside0.mk hc0
  clear hr0 hc0
  have HB := Aside0.mk (Below.refl w.heap.size w)
  have H := h
  unfold impl_found.f at H
  clear h
  replace H := bE H; obtain ⟨t101, A3, H⟩ := H
  go_enter Try.func81, Try.ntmps81
  by_cases c4 : t101 = true
  · subst c4
    rw [if_pos rfl] at H
    by_cases c5 : a1 < 0
    · rw [if_pos c5] at H
      have c5b0 := decide_eq_true c5
      clear c5
      simp only [Option.some.injEq, Prod.mk.injEq] at H
      obtain ⟨rfl, rfl⟩ := H
      go_wp2_with (first | (refine goesM 22 7 Try.func22 #[.slice A0 l0.length c0] ?_; refine (impl_Whole.calls k _ _ l0 true _ (cX HR0.out) HC0.out A3.out).mono ?_; rintro e wz1 ⟨rfl, hb⟩; refine ⟨_, rfl, ?_⟩; replace HB := Aside0.mk (below_step (hX HB.out) hb); clear hb))
      go_ret2
      exact ⟨rE, (hX HB.out)⟩
    · rw [if_neg c5] at H
      have c5b0 := decide_eq_false c5
      clear c5
      replace H := ifP H; obtain ⟨c7, H⟩ := H
      have c7b0 := decide_eq_true c7
      clear c7
      replace H := ifP H; obtain ⟨c8, H⟩ := H
      have c8b0 := decide_eq_true c8
      clear c8
      by_cases c9 : (rd l0 a1) = 0
      · rw [if_pos c9] at H
        obtain ⟨c9b0, c9b1⟩ := eqT c9
        clear c9
        simp only [Option.some.injEq, Prod.mk.injEq] at H
        obtain ⟨rfl, rfl⟩ := H
        go_wp2_with (first | (refine goesM 22 7 Try.func22 #[.slice A0 l0.length c0] ?_; refine (impl_Whole.calls k _ _ l0 true _ (cX HR0.out) HC0.out A3.out).mono ?_; rintro e wz1 ⟨rfl, hb⟩; refine ⟨_, rfl, ?_⟩; replace HB := Aside0.mk (below_step (hX HB.out) hb); clear hb; have pz1 : 0 ≤ (a1 : Int) := of_decide_eq_true (by first | (with_reducible assumption) | assumption); have qz1 : a1 < (l0.length : Int) := of_decide_eq_true (by first | (with_reducible assumption) | assumption); obtain ⟨adz1, ez1, hxz1⟩ := Kd.at_int HR0.out a1 pz1 qz1; cases ez1; replace hxz1 := (HB.out.cell (World.block_lt_of_cell? w _ hxz1)).trans hxz1; replace pz1 := eq_true pz1; replace qz1 := eq_true qz1))
        go_ret2
        exact ⟨rE, (hX HB.out)⟩
      · rw [if_neg c9] at H
        obtain ⟨c9b0, c9b1⟩ := eqF c9
        simp only [Option.some.injEq, Prod.mk.injEq] at H
        obtain ⟨rfl, rfl⟩ := H
        go_wp2_with (first | (refine goesM 22 7 Try.func22 #[.slice A0 l0.length c0] ?_; refine (impl_Whole.calls k _ _ l0 true _ (cX HR0.out) HC0.out A3.out).mono ?_; rintro e wz1 ⟨rfl, hb⟩; refine ⟨_, rfl, ?_⟩; replace HB := Aside0.mk (below_step (hX HB.out) hb); clear hb; have pz1 : 0 ≤ (a1 : Int) := of_decide_eq_true (by first | (with_reducible assumption) | assumption); have qz1 : a1 < (l0.length : Int) := of_decide_eq_true (by first | (with_reducible assumption) | assumption); obtain ⟨adz1, ez1, hxz1⟩ := Kd.at_int HR0.out a1 pz1 qz1; cases ez1; replace hxz1 := (HB.out.cell (World.block_lt_of_cell? w _ hxz1)).trans hxz1; replace pz1 := eq_true pz1; replace qz1 := eq_true qz1; have pz2 : 0 ≤ (a1 : Int) := of_decide_eq_true (by first | (with_reducible assumption) | assumption); have qz2 : a1 < (l0.length : Int) := of_decide_eq_true (by first | (with_reducible assumption) | assumption); obtain ⟨adz2, ez2, hxz2⟩ := Kd.at_int HR0.out a1 pz2 qz2; obtain rfl : adz1 = adz2 := (by injection ez2); replace hxz2 := (HB.out.cell (World.block_lt_of_cell? w _ hxz2)).trans hxz2; replace pz2 := eq_true pz2; replace qz2 := eq_true qz2))
        go_ret2
        exact ⟨rE, (hX HB.out)⟩
  · replace c4 := Bool.eq_false_iff.mpr c4
    subst c4
    rw [if_neg nft] at H
    simp only [Option.some.injEq, Prod.mk.injEq] at H
    obtain ⟨rfl, rfl⟩ := H
    go_wp2_with (first | (refine goesM 22 7 Try.func22 #[.slice A0 l0.length c0] ?_; refine (impl_Whole.calls k _ _ l0 false _ (cX HR0.out) HC0.out A3.out).mono ?_; rintro e wz1 ⟨rfl, hb⟩; refine ⟨_, rfl, ?_⟩; replace HB := Aside0.mk (below_step (hX HB.out) hb); clear hb))
    go_ret2
    exact ⟨rE, (hX HB.out)⟩
end Go.Proofs.Yteamagejhbkhnaa.P
namespace Go.Proofs.Yteamagejhbkhnaa.P
open Go.Proofs.YteamagejhbkhnaaZ Go.RowKit Go.Proofs.YteamagejhbkhnaaW.PrintWords Go.Proofs.YteamagejhbkhnaaW.PrintLast Go.Proofs.YteamagejhbkhnaaW.PrintMore
attribute [local go_sem] max2_int min2_int max_two min_two max_three min_three max_four min_four   -- for this text's walks alone
set_option linter.unusedVariables false
set_option linter.unusedSimpArgs false
def impl_Find.f (k : Nat) (l0 : List Int) (a1 : Int) : Option (Int × Bool) := (impl_OwnerAt.f a1).bind fun t101 => ((impl_found.f k l0 t101).bind fun bt102 => (some (bt102.1, bt102.2)))
set_option maxHeartbeats 8000000 in
set_option maxRecDepth 100000 in
theorem impl_Find.calls (k : Nat) (A0 : Option Addr) (c0 : Nat) (l0 : List Int) (a1 : Int) (r1 : Int) (r2 : Bool) (w : World) (hr0 : Kd.C (Kd.int .i64) w A0 l0.length l0) (hc0 : l0.length ≤ c0) (h : impl_Find.f k l0 a1 = some (r1, r2)) :
    Calls Try.prog 27 #[.slice A0 l0.length c0, .int .i64 a1] w fun e w' => e = .returned (.tuple #[.int .i64 r1, .bool r2]) ∧ Below w.heap.size w w' := by
  have HR0 := Aside0.mk hr0
  have HC0 := Aside0.mk hc0
  clear hr0 hc0
  have HB := Aside0.mk (Below.refl w.heap.size w)
  have H := h
  unfold impl_Find.f at H
  clear h
  replace H := bE H; obtain ⟨t101, A3, H⟩ := H
  replace H := bE H; obtain ⟨⟨t102, t103⟩, A4, H⟩ := H
  try dsimp only at H
  simp only [Option.some.injEq, Prod.mk.injEq] at H
  obtain ⟨rfl, rfl⟩ := H
  go_enter Try.func27, Try.ntmps27
  go_wp2_with (first | (refine goesM 52 8 Try.func52 #[.int .i64 a1] ?_; refine (impl_OwnerAt.calls a1 t101 _ A3.out).mono ?_; rintro e w' ⟨rfl, ⟨nd, rfl⟩⟩; refine ⟨_, rfl, ?_⟩) | (refine goesM 81 9 Try.func81 #[.slice A0 l0.length c0, .int .i64 t101] ?_; refine (impl_found.calls k _ _ l0 t101 t102 t103 _ (cX HR0.out) HC0.out A4.out).mono ?_; rintro e wz1 ⟨rfl, hb⟩; refine ⟨_, rfl, ?_⟩; replace HB := Aside0.mk (below_step (hX HB.out) hb); clear hb))
  go_ret2
  exact ⟨rE, (hX HB.out)⟩
end Go.Proofs.Yteamagejhbkhnaa.P
namespace Go.Proofs.Yteamagejhbkhnaa.P
open Go.Proofs.YteamagejhbkhnaaZ Go.RowKit Go.Proofs.YteamagejhbkhnaaW.PrintWords Go.Proofs.YteamagejhbkhnaaW.PrintLast Go.Proofs.YteamagejhbkhnaaW.PrintMore
attribute [local go_sem] max2_int min2_int max_two min_two max_three min_three max_four min_four   -- for this text's walks alone
set_option linter.unusedVariables false
set_option linter.unusedSimpArgs false
def spec_FindVia.f (k : Nat) (l0 : List Int) (a1 : Int) : Option (Int × Bool) := (spec_ViaAt.f a1).bind fun t101 => ((spec_l13Key.f k l0 t101).bind fun bt102 => (if bt102.2 = true then ((spec_StateAt.f).bind fun t104 => (if 0 ≤ t104 then (if t104 < (l0.length : Int) then (if (rd l0 t104) = 5 then (some (bt102.1, true)) else (some (0, false))) else (none)) else (none))) else (some (0, false))))
set_option maxHeartbeats 8000000 in
set_option maxRecDepth 100000 in
theorem spec_FindVia.calls (k : Nat) (A0 : Option Addr) (c0 : Nat) (l0 : List Int) (a1 : Int) (r1 : Int) (r2 : Bool) (w : World) (hr0 : Kd.C (Kd.int .i64) w A0 l0.length l0) (hc0 : l0.length ≤ c0) (h : spec_FindVia.f k l0 a1 = some (r1, r2)) :
    Calls Try.prog 28 #[.slice A0 l0.length c0, .int .i64 a1] w fun e w' => e = .returned (.tuple #[.int .i64 r1, .bool r2]) ∧ Below w.heap.size w w' := by
  have HR0 := Aside0.mk hr0
  have HC0 := Aside0.mk hc0
  clear hr0 hc0
  have HB := Aside0.mk (Below.refl w.heap.size w)
  have H := h
  unfold spec_FindVia.f at H
  clear h
  replace H := bE H; obtain ⟨t101, A3, H⟩ := H
  replace H := bE H; obtain ⟨⟨t102, t103⟩, A4, H⟩ := H
  try dsimp only at H
  go_enter Try.func28, Try.ntmps28
  go_wp2_with (first | (refine goesM 82 11 Try.func82 #[.int .i64 a1] ?_; refine (spec_ViaAt.calls a1 t101 _ A3.out).mono ?_; rintro e w' ⟨rfl, ⟨nd, rfl⟩⟩; refine ⟨_, rfl, ?_⟩; refine Stop.out ?_))
  refine ⟨?_⟩
  by_cases c5 : t103 = true
  · subst c5
    rw [if_pos rfl] at H
    replace H := bE H; obtain ⟨t104, A6, H⟩ := H
    replace H := ifP H; obtain ⟨c7, H⟩ := H
    have c7b0 := decide_eq_true c7
    clear c7
    replace H := ifP H; obtain ⟨c8, H⟩ := H
    have c8b0 := decide_eq_true c8
    clear c8
    go_wp2_with (first | (refine goesM 79 12 Try.func79 #[.slice A0 l0.length c0, .int .i64 t101] ?_; refine (spec_l13Key.calls k _ _ l0 t101 t102 true _ (cX HR0.out) HC0.out A4.out).mono ?_; rintro e wz1 ⟨rfl, hb⟩; refine ⟨_, rfl, ?_⟩; replace HB := Aside0.mk (below_step (hX HB.out) hb); clear hb) | (go_at_call 74; (with_reducible refine (spec_StateAt.calls  t104 _ A6.out).mono ?_); rintro e w' ⟨rfl, ⟨nd, rfl⟩⟩; have pz1 : 0 ≤ (t104 : Int) := of_decide_eq_true (by first | (with_reducible assumption) | assumption); have qz1 : t104 < (l0.length : Int) := of_decide_eq_true (by first | (with_reducible assumption) | assumption); obtain ⟨adz1, ez1, hxz1⟩ := Kd.at_int HR0.out t104 pz1 qz1; cases ez1; replace hxz1 := (HB.out.cell (World.block_lt_of_cell? w _ hxz1)).trans hxz1; replace pz1 := eq_true pz1; replace qz1 := eq_true qz1; refine Stop.out ?_))
    refine ⟨?_⟩
    by_cases c9 : (rd l0 t104) = 5
    · rw [if_pos c9] at H
      obtain ⟨c9b0, c9b1⟩ := eqT c9
      clear c9
      simp only [Option.some.injEq, Prod.mk.injEq] at H
      obtain ⟨rfl, rfl⟩ := H
      go_wp2
      go_ret2
      exact ⟨rE, (hX HB.out)⟩
    · rw [if_neg c9] at H
      obtain ⟨c9b0, c9b1⟩ := eqF c9
      simp only [Option.some.injEq, Prod.mk.injEq] at H
      obtain ⟨rfl, rfl⟩ := H
      go_wp2
      go_ret2
      exact ⟨rE, (hX HB.out)⟩
  · replace c5 := Bool.eq_false_iff.mpr c5
    subst c5
    rw [if_neg nft] at H
    simp only [Option.some.injEq, Prod.mk.injEq] at H
    obtain ⟨rfl, rfl⟩ := H
    go_wp2_with (first | (refine goesM 79 12 Try.func79 #[.slice A0 l0.length c0, .int .i64 t101] ?_; refine (spec_l13Key.calls k _ _ l0 t101 t102 false _ (cX HR0.out) HC0.out A4.out).mono ?_; rintro e wz1 ⟨rfl, hb⟩; refine ⟨_, rfl, ?_⟩; replace HB := Aside0.mk (below_step (hX HB.out) hb); clear hb))
    go_ret2
    exact ⟨rE, (hX HB.out)⟩
end Go.Proofs.Yteamagejhbkhnaa.P
namespace Go.Proofs.Yteamagejhbkhnaa.P
open Go.Proofs.YteamagejhbkhnaaZ Go.RowKit Go.Proofs.YteamagejhbkhnaaW.PrintWords Go.Proofs.YteamagejhbkhnaaW.PrintLast Go.Proofs.YteamagejhbkhnaaW.PrintMore
attribute [local go_sem] max2_int min2_int max_two min_two max_three min_three max_four min_four   -- for this text's walks alone
set_option linter.unusedVariables false
set_option linter.unusedSimpArgs false
def impl_made.f (l0_0 : List Int) (a0_1 : Int) : Option (Bool) := some (a0_1 == 5)
set_option maxHeartbeats 8000000 in
set_option maxRecDepth 100000 in
theorem impl_made.calls (A0_0 : Option Addr) (c0_0 : Nat) (l0_0 : List Int) (a0_1 : Int) (r : Bool) (w : World) (hr0_0 : Kd.C (Kd.int .i64) w A0_0 l0_0.length l0_0) (hc0_0 : l0_0.length ≤ c0_0) (h : impl_made.f l0_0 a0_1 = some r) :
    Calls Try.prog 83 #[.agg #[.slice A0_0 l0_0.length c0_0, .int .i64 a0_1]] w fun e w' => e = .returned (.bool r) ∧ Below w.heap.size w w' := by
  have hu24 := Try.underlying24
  have HR0_0 := Aside0.mk hr0_0
  have HC0_0 := Aside0.mk hc0_0
  clear hr0_0 hc0_0
  have HB := Aside0.mk (Below.refl w.heap.size w)
  have H := h
  unfold impl_made.f at H
  clear h
  obtain rfl := Option.some.inj H
  go_enter Try.func83, Try.ntmps83
  go_wp2_with (first | (refine boxE 1 #[.slice A0_0 l0_0.length c0_0, .int .i64 a0_1] 24 ?_; intro gbz1 hg wz1 hbox hb; have BKz1 := Aside0.mk (hbox); have GWz1 := Aside0.mk (gX' hg (hX HB.out)); have GEz1 := Aside0.mk (gX' hg (hX HB.out)); replace HB := Aside0.mk (below_step (hX HB.out) hb); clear hb hbox hg; obtain ⟨hczz1, hczz2, hfzz1, hfzz2⟩ := cZ2 BKz1.out))
  go_ret
  exact ⟨rE, (hX HB.out)⟩
end Go.Proofs.Yteamagejhbkhnaa.P
namespace Go.Proofs.Yteamagejhbkhnaa.P
open Go.Proofs.YteamagejhbkhnaaZ Go.RowKit Go.Proofs.YteamagejhbkhnaaW.PrintWords Go.Proofs.YteamagejhbkhnaaW.PrintLast Go.Proofs.YteamagejhbkhnaaW.PrintMore
attribute [local go_sem] max2_int min2_int max_two min_two max_three min_three max_four min_four   -- for this text's walks alone
set_option linter.unusedVariables false
set_option linter.unusedSimpArgs false
def impl_FindVia.f (k : Nat) (l0 : List Int) (a1 : Int) : Option (Int × Bool) := (impl_RowsIn.f l0).bind fun bt101 => ((impl_made.f bt101.1 bt101.2).bind fun t105 => (if t105 = true then ((impl_ViaAt.f a1).bind fun t106 => ((impl_found.f k l0 t106).bind fun bt107 => (some (bt107.1, bt107.2)))) else (some (0, false))))
set_option maxHeartbeats 8000000 in
set_option maxRecDepth 100000 in
theorem impl_FindVia.calls (k : Nat) (A0 : Option Addr) (c0 : Nat) (l0 : List Int) (a1 : Int) (r1 : Int) (r2 : Bool) (w : World) (hr0 : Kd.C (Kd.int .i64) w A0 l0.length l0) (hc0 : l0.length ≤ c0) (h : impl_FindVia.f k l0 a1 = some (r1, r2)) :
    Calls Try.prog 29 #[.slice A0 l0.length c0, .int .i64 a1] w fun e w' => e = .returned (.tuple #[.int .i64 r1, .bool r2]) ∧ Below w.heap.size w w' := by
  have HR0 := Aside0.mk hr0
  have HC0 := Aside0.mk hc0
  clear hr0 hc0
  have HB := Aside0.mk (Below.refl w.heap.size w)
  have H := h
  unfold impl_FindVia.f at H
  clear h
  replace H := bE H; obtain ⟨⟨t101, t104⟩, A3, H⟩ := H
  try dsimp only at H
  replace H := bE H; obtain ⟨t105, A4, H⟩ := H
  go_enter Try.func29, Try.ntmps29
  go_wp2_with (first | (refine goesM 15 7 Try.func15 #[.slice A0 l0.length c0] ?_; refine (impl_RowsIn.calls _ _ l0 t101 t104 _ (cX HR0.out) HC0.out A3.out).mono ?_; rintro e wz1 ⟨vz1, rfl, hoz1, hb⟩; refine ⟨_, rfl, ?_⟩; have HOz1 := Aside0.mk (Kd.R_lower hoz1 (below_size (hX HB.out))); replace HB := Aside0.mk (below_step (hX HB.out) hb); clear hb hoz1; obtain ⟨Aoz1, coz1, eoz1⟩ := Kd.R_slice HOz1.out; subst eoz1; refine Stop.out ?_))
  refine ⟨?_⟩
  by_cases c5 : t105 = true
  · subst c5
    rw [if_pos rfl] at H
    replace H := bE H; obtain ⟨t106, A6, H⟩ := H
    replace H := bE H; obtain ⟨⟨t107, t108⟩, A7, H⟩ := H
    try dsimp only at H
    simp only [Option.some.injEq, Prod.mk.injEq] at H
    obtain ⟨rfl, rfl⟩ := H
    go_wp2_with (first | (refine goesM 83 8 Try.func83 #[.agg #[.slice Aoz1 t101.length coz1, .int .i64 t104]] ?_; refine (impl_made.calls _ _ t101 t104 true _ (cX (Kd.R_reads' HOz1.out).2.2) ((Kd.R_reads' HOz1.out).2.1) A4.out).mono ?_; rintro e wz2 ⟨rfl, hb⟩; refine ⟨_, rfl, ?_⟩; replace HOz1 := Aside0.mk (Kd.R_below (rX HOz1.out) hb); replace HB := Aside0.mk (below_step (hX HB.out) hb); clear hb) | (refine goesM 84 12 Try.func84 #[.int .i64 a1] ?_; refine (impl_ViaAt.calls a1 t106 _ A6.out).mono ?_; rintro e w' ⟨rfl, ⟨nd, rfl⟩⟩; refine ⟨_, rfl, ?_⟩) | (refine goesM 81 13 Try.func81 #[.slice A0 l0.length c0, .int .i64 t106] ?_; refine (impl_found.calls k _ _ l0 t106 t107 t108 _ (cC HR0.out HB.out) HC0.out A7.out).mono ?_; rintro e wz3 ⟨rfl, hb⟩; refine ⟨_, rfl, ?_⟩; replace HOz1 := Aside0.mk (Kd.R_below (rX HOz1.out) hb); replace HB := Aside0.mk (below_step (hX HB.out) hb); clear hb))
    go_ret2
    exact ⟨rE, (hX HB.out)⟩
  · replace c5 := Bool.eq_false_iff.mpr c5
    subst c5
    rw [if_neg nft] at H
    simp only [Option.some.injEq, Prod.mk.injEq] at H
    obtain ⟨rfl, rfl⟩ := H
    go_wp2_with (first | (refine goesM 83 8 Try.func83 #[.agg #[.slice Aoz1 t101.length coz1, .int .i64 t104]] ?_; refine (impl_made.calls _ _ t101 t104 false _ (cX (Kd.R_reads' HOz1.out).2.2) ((Kd.R_reads' HOz1.out).2.1) A4.out).mono ?_; rintro e wz2 ⟨rfl, hb⟩; refine ⟨_, rfl, ?_⟩; replace HOz1 := Aside0.mk (Kd.R_below (rX HOz1.out) hb); replace HB := Aside0.mk (below_step (hX HB.out) hb); clear hb))
    go_ret2
    exact ⟨rE, (hX HB.out)⟩
end Go.Proofs.Yteamagejhbkhnaa.P
namespace Go.Proofs.Yteamagejhbkhnaa.P
open Go.Proofs.YteamagejhbkhnaaZ Go.RowKit Go.Proofs.YteamagejhbkhnaaW.PrintWords Go.Proofs.YteamagejhbkhnaaW.PrintLast Go.Proofs.YteamagejhbkhnaaW.PrintMore
attribute [local go_sem] max2_int min2_int max_two min_two max_three min_three max_four min_four   -- for this text's walks alone
set_option linter.unusedVariables false
set_option linter.unusedSimpArgs false
def laws_big.f (l0 : List Int) : Option (Bool) := some (decide ((l0.length : Int) > 1048576))
set_option maxHeartbeats 8000000 in
set_option maxRecDepth 100000 in
theorem laws_big.calls (A0 : Option Addr) (c0 : Nat) (l0 : List Int) (r : Bool) (w : World) (hr0 : Kd.C (Kd.int .u8) w A0 l0.length l0) (hc0 : l0.length ≤ c0) (h : laws_big.f l0 = some r) :
    Calls Try.prog 30 #[.slice A0 l0.length c0] w fun e w' => e = .returned (.bool r) ∧ Drawn0 w w' := by
  have HR0 := Aside0.mk hr0
  have HC0 := Aside0.mk hc0
  clear hr0 hc0
  have H := h
  unfold laws_big.f at H
  clear h
  obtain rfl := Option.some.inj H
  go_enter Try.func30, Try.ntmps30
  go_wp2
  go_ret
  exact ⟨by first | rfl | (simp; done) | (simp [*]; done), dX⟩
end Go.Proofs.Yteamagejhbkhnaa.P
namespace Go.Proofs.Yteamagejhbkhnaa.P
open Go.Proofs.YteamagejhbkhnaaZ Go.RowKit Go.Proofs.YteamagejhbkhnaaW.PrintWords Go.Proofs.YteamagejhbkhnaaW.PrintLast Go.Proofs.YteamagejhbkhnaaW.PrintMore
attribute [local go_sem] max2_int min2_int max_two min_two max_three min_three max_four min_four   -- for this text's walks alone
set_option linter.unusedVariables false
set_option linter.unusedSimpArgs false
def laws_sameInts.l0 : Nat → List Int → List Int → Int → Option (Bool)
  | 0, _, _, _ => none
  | k + 1, x0, x1, x5 => if x5 < (x0.length : Int) then (if 0 ≤ x5 then (if x5 < (x1.length : Int) then (if (rd x0 x5) = (rd x1 x5) then (laws_sameInts.l0 k x0 x1 (wrap64 (x5 + 1))) else (some false)) else (none)) else (none)) else (some true)
def laws_sameInts.f (k : Nat) (l0 : List Int) (l1 : List Int) : Option (Bool) := if (l0.length : Int) = (l1.length : Int) then (laws_sameInts.l0 k l0 l1 0) else (some false)
set_option maxHeartbeats 8000000 in
set_option maxRecDepth 100000 in
theorem laws_sameInts.calls (k : Nat) (A0 : Option Addr) (c0 : Nat) (l0 : List Int) (A1 : Option Addr) (c1 : Nat) (l1 : List Int) (r : Bool) (w : World) (hr0 : Kd.C (Kd.int .i64) w A0 l0.length l0) (hc0 : l0.length ≤ c0) (hr1 : Kd.C (Kd.int .i64) w A1 l1.length l1) (hc1 : l1.length ≤ c1) (h : laws_sameInts.f k l0 l1 = some r) :
    Calls Try.prog 36 #[.slice A0 l0.length c0, .slice A1 l1.length c1] w fun e w' => e = .returned (.bool r) ∧ Drawn0 w w' := by
  have HR0 := Aside0.mk hr0
  have HC0 := Aside0.mk hc0
  clear hr0 hc0
  have HR1 := Aside0.mk hr1
  have HC1 := Aside0.mk hc1
  clear hr1 hc1
  have H := h
  unfold laws_sameInts.f at H
  clear h
  go_enter Try.func36, Try.ntmps36
  by_cases c3 : (l0.length : Int) = (l1.length : Int)
  · rw [if_pos c3] at H
    obtain ⟨c3b0, c3b1⟩ := eqT c3
    have c3b2 : (l0.length == l1.length) = true := by first | simpa using c3 | (simp at c3 ⊢; omega)
    clear c3
    have H' := Aside0.mk H
    clear H
    go_wp2
    repeat (go_quiet (fail); try go_wp2)
    go_loopg [5] k (fun kq v5 w' => ∃ (x5_1 : Int), v5 = .int .i64 x5_1 ∧ Aside0 (laws_sameInts.l0 kq l0 l1 x5_1 = some r) ∧ Aside0 (kq ≤ k) ∧ Drawn0 w w')
    case atStart => exact ⟨(0), rS, H', ⟨Nat.le_refl _⟩, dX⟩
    case round =>
      clear H'
      try clear c1
      try clear p2
      try clear c3
      try clear c3b0
      try clear c3b1
      try clear c3b2
      obtain ⟨x5_1, rfl, HA, HKy1, ⟨my1, rfl⟩⟩ := hrel
      cases gk with
      | zero => exact absurd HA.out (by simp [laws_sameInts.l0])
      | succ k1 =>
        have H := HA.out
        clear HA
        simp only [laws_sameInts.l0] at H
        by_cases c4 : x5_1 < (l0.length : Int)
        · rw [if_pos c4] at H
          have c4b0 := decide_eq_true c4
          clear c4
          replace H := ifP H; obtain ⟨c5, H⟩ := H
          have c5b0 := decide_eq_true c5
          clear c5
          replace H := ifP H; obtain ⟨c6, H⟩ := H
          have c6b0 := decide_eq_true c6
          clear c6
          by_cases c7 : (rd l0 x5_1) = (rd l1 x5_1)
          · rw [if_pos c7] at H
            obtain ⟨c7b0, c7b1⟩ := eqT c7
            clear c7
            have H' := Aside0.mk H
            clear H
            have px1 : 0 ≤ (x5_1 : Int) := of_decide_eq_true (by first | (with_reducible assumption) | assumption)
            have qx1 : x5_1 < (l0.length : Int) := of_decide_eq_true (by first | (with_reducible assumption) | assumption)
            obtain ⟨adx1, ex1, hxx1⟩ := Kd.at_int HR0.out x5_1 px1 qx1
            cases ex1
            replace px1 := eq_true px1
            replace qx1 := eq_true qx1
            have px2 : 0 ≤ (x5_1 : Int) := of_decide_eq_true (by first | (with_reducible assumption) | assumption)
            have qx2 : x5_1 < (l1.length : Int) := of_decide_eq_true (by first | (with_reducible assumption) | assumption)
            obtain ⟨adx2, ex2, hxx2⟩ := Kd.at_int HR1.out x5_1 px2 qx2
            cases ex2
            replace px2 := eq_true px2
            replace qx2 := eq_true qx2
            go_wp2
            repeat (go_quiet (fail); try go_wp2)
            go_roundg k1
            case measure => have := HKy1.out; omega
            case rel => exact ⟨(wrap64 (x5_1 + 1)), rS, H', ⟨by have := HKy1.out; omega⟩, dX⟩
          · rw [if_neg c7] at H
            obtain ⟨c7b0, c7b1⟩ := eqF c7
            obtain rfl := Option.some.inj H
            have px1 : 0 ≤ (x5_1 : Int) := of_decide_eq_true (by first | (with_reducible assumption) | assumption)
            have qx1 : x5_1 < (l0.length : Int) := of_decide_eq_true (by first | (with_reducible assumption) | assumption)
            obtain ⟨adx1, ex1, hxx1⟩ := Kd.at_int HR0.out x5_1 px1 qx1
            cases ex1
            replace px1 := eq_true px1
            replace qx1 := eq_true qx1
            have px2 : 0 ≤ (x5_1 : Int) := of_decide_eq_true (by first | (with_reducible assumption) | assumption)
            have qx2 : x5_1 < (l1.length : Int) := of_decide_eq_true (by first | (with_reducible assumption) | assumption)
            obtain ⟨adx2, ex2, hxx2⟩ := Kd.at_int HR1.out x5_1 px2 qx2
            cases ex2
            replace px2 := eq_true px2
            replace qx2 := eq_true qx2
            go_wp2
            repeat (go_quiet (fail); try go_wp2)
            go_ret
            exact ⟨by first | rfl | (simp; done) | (simp [*]; done), dX⟩
        · rw [if_neg c4] at H
          have c4b0 := decide_eq_false c4
          clear c4
          obtain rfl := Option.some.inj H
          go_wp2
          repeat (go_quiet (fail); try go_wp2)
          go_ret
          exact ⟨by first | rfl | (simp; done) | (simp [*]; done), dX⟩
  · rw [if_neg c3] at H
    obtain ⟨c3b0, c3b1⟩ := eqF c3
    have c3b2 : (l0.length == l1.length) = false := by first | simpa using c3 | (simp at c3 ⊢; omega)
    obtain rfl := Option.some.inj H
    go_wp2
    repeat (go_quiet (fail); try go_wp2)
    go_ret
    exact ⟨by first | rfl | (simp; done) | (simp [*]; done), dX⟩
end Go.Proofs.Yteamagejhbkhnaa.P
namespace Go.Proofs.Yteamagejhbkhnaa.P
open Go.Proofs.YteamagejhbkhnaaZ Go.RowKit Go.Proofs.YteamagejhbkhnaaW.PrintWords Go.Proofs.YteamagejhbkhnaaW.PrintLast Go.Proofs.YteamagejhbkhnaaW.PrintMore
attribute [local go_sem] max2_int min2_int max_two min_two max_three min_three max_four min_four   -- for this text's walks alone
set_option linter.unusedVariables false
set_option linter.unusedSimpArgs false
def IsS124 (w0 W : World) (g : Nat) (f0 : List Int) (f1 : Int) (f2 : Int) : Prop := ∃ A0 c0, W.heap[g]? = some (.cells #[.slice A0 f0.length c0, .int .i64 f1, .int .i64 f2] 124 (0, 0)) ∧ w0.heap.size ≤ g ∧ Kd.C (Kd.int .u8) w0 A0 f0.length f0
theorem IsS124.grown {w0 W : World} {g : Nat} {f0 : List Int} {f1 : Int} {f2 : Int} {W1 : World} {row : Option Nat} (h : IsS124 w0 W g f0 f1 f2) (hw : W.grownBy W1 row) (hne : some g ≠ row) : IsS124 w0 W1 g f0 f1 f2 := by
  obtain ⟨A0, c0, hb, hg, hr0⟩ := h
  exact ⟨A0, c0, blk_grown hb hw hne, hg, hr0⟩
theorem IsS124.kept {w0 W : World} {g : Nat} {f0 : List Int} {f1 : Int} {f2 : Int} {W1 : World} {S : Nat → Prop} (h : IsS124 w0 W g f0 f1 f2) (hk : Kept W W1 S) (hne : ¬ S g) : IsS124 w0 W1 g f0 f1 f2 := by
  obtain ⟨A0, c0, hb, hg, hr0⟩ := h
  exact ⟨A0, c0, blk_kept hb hk hne, hg, hr0⟩
theorem IsS124.below {w0 W : World} {g : Nat} {f0 : List Int} {f1 : Int} {f2 : Int} {W1 : World} (h : IsS124 w0 W g f0 f1 f2) (hw : Below W.heap.size W W1) : IsS124 w0 W1 g f0 f1 f2 := h.grown (grown_of_below hw none) (by simp)
theorem IsS124.alloc {w0 W : World} {g : Nat} {f0 : List Int} {f1 : Int} {f2 : Int} (h : IsS124 w0 W g f0 f1 f2) (o : Obj) : IsS124 w0 (W.alloc o) g f0 f1 f2 := h.below (below_alloc (Below.refl _ _) o)
theorem IsS124.drewN {w0 W : World} {g : Nat} {f0 : List Int} {f1 : Int} {f2 : Int} (h : IsS124 w0 W g f0 f1 f2) (m : Nat) : IsS124 w0 (W.drewN m) g f0 f1 f2 := h
theorem IsS124.drew {w0 W : World} {g : Nat} {f0 : List Int} {f1 : Int} {f2 : Int} (h : IsS124 w0 W g f0 f1 f2) : IsS124 w0 W.drew g f0 f1 f2 := h
theorem IsS124.at_ {w0 W : World} {g : Nat} {f0 : List Int} {f1 : Int} {f2 : Int} {w' : World} {m : Nat} (hq : W.drewN m = w') (h : IsS124 w0 W g f0 f1 f2) : IsS124 w0 w' g f0 f1 f2 := by subst hq; exact IsS124.drewN h m
theorem IsS124.apart {w0 W : World} {g : Nat} {f0 : List Int} {f1 : Int} {f2 : Int} {α : Type} {d : Kd α} {e : Nat} {base : Nat} {ok : Nat → Prop} {v : Value} {xs : List α} (h : IsS124 w0 W g f0 f1 f2) (ho : d.R e W base ok v xs) (ht : ∀ q, q ∈ e :: d.E → q ≠ 124) : d.R e W base (fun k => ok k ∧ k ≠ g) v xs := by
  obtain ⟨A0, c0, hb, hg, hr0⟩ := h
  exact Kd.R_types ho hb ht
theorem IsS124.own_ne {w0 W : World} {g : Nat} {f0 : List Int} {f1 : Int} {f2 : Int} {α : Type} {d : Kd α} {e : Nat} {base : Nat} {ok : Nat → Prop} {v : Value} {xs : List α} (h : IsS124 w0 W g f0 f1 f2) (ho : d.R e W base ok v xs) (ht : e ≠ 124) : some g ≠ v.ownBlock := by
  obtain ⟨A0, c0, hb, hg, hr0⟩ := h
  exact Kd.R_ne ho hb ht
theorem IsS124.lt {w0 W : World} {g : Nat} {f0 : List Int} {f1 : Int} {f2 : Int} (h : IsS124 w0 W g f0 f1 f2) : g < W.heap.size := by
  obtain ⟨A0, c0, hb, hg, hr0⟩ := h
  exact blk_lt hb
theorem IsS124.ge {w0 W : World} {g : Nat} {f0 : List Int} {f1 : Int} {f2 : Int} (h : IsS124 w0 W g f0 f1 f2) : w0.heap.size ≤ g := by
  obtain ⟨A0, c0, hb, hg, hr0⟩ := h
  exact hg
theorem IsS124.far {w0 W : World} {g : Nat} {f0 : List Int} {f1 : Int} {f2 : Int} {p : Addr} (h : IsS124 w0 W g f0 f1 f2) (hne : g ≠ p.block) (u : Value) : IsS124 w0 (W.setCell p u) g f0 f1 f2 := by
  obtain ⟨A0, c0, hb, hg, hr0⟩ := h
  exact ⟨A0, c0, blk_far hb hne u, hg, hr0⟩
theorem cellS124_0 {W : World} {g : Nat} {A0 : Option Addr} {c0 : Nat} {f0 : List Int} {f1 : Int} {f2 : Int} (h : W.heap[g]? = some (.cells #[.slice A0 f0.length c0, .int .i64 f1, .int .i64 f2] 124 (0, 0))) : W.cell? ⟨g, 0, none⟩ = some (.slice A0 f0.length c0) := (blk_cell h 0).trans rfl
theorem cellS124_1 {W : World} {g : Nat} {A0 : Option Addr} {c0 : Nat} {f0 : List Int} {f1 : Int} {f2 : Int} (h : W.heap[g]? = some (.cells #[.slice A0 f0.length c0, .int .i64 f1, .int .i64 f2] 124 (0, 0))) : W.cell? ⟨g, 1, none⟩ = some (.int .i64 f1) := (blk_cell h 1).trans rfl
theorem IsS124.set_1 {w0 W : World} {g : Nat} {f0 : List Int} {f1 : Int} {f2 : Int} (h : IsS124 w0 W g f0 f1 f2) (x : Int) : IsS124 w0 (W.setCell ⟨g, 1, none⟩ (.int .i64 x)) g f0 x f2 := by
  obtain ⟨A0, c0, hb, hg, hr0⟩ := h
  exact ⟨A0, c0, by simpa using blk_set hb 1 (.int .i64 x), hg, hr0⟩
theorem cellS124_2 {W : World} {g : Nat} {A0 : Option Addr} {c0 : Nat} {f0 : List Int} {f1 : Int} {f2 : Int} (h : W.heap[g]? = some (.cells #[.slice A0 f0.length c0, .int .i64 f1, .int .i64 f2] 124 (0, 0))) : W.cell? ⟨g, 2, none⟩ = some (.int .i64 f2) := (blk_cell h 2).trans rfl
theorem IsS124.set_2 {w0 W : World} {g : Nat} {f0 : List Int} {f1 : Int} {f2 : Int} (h : IsS124 w0 W g f0 f1 f2) (x : Int) : IsS124 w0 (W.setCell ⟨g, 2, none⟩ (.int .i64 x)) g f0 f1 x := by
  obtain ⟨A0, c0, hb, hg, hr0⟩ := h
  exact ⟨A0, c0, by simpa using blk_set hb 2 (.int .i64 x), hg, hr0⟩
def spec_l1Byte.f (s0_0 : List Int) (s0_1 : Int) (s0_2 : Int) : Option (Int × Int × Int) := if s0_1 < (s0_0.length : Int) then (if 0 ≤ s0_1 then (some (Go.bits .and .i64 (wrap64 ((Go.bits .and .i64 (Go.bits .xor .i64 ((wrap64 ((wrap64 (s0_2 * 6364136223846793005)) + 1442695040888963407)) / 8589934592) ((wrap64 ((wrap64 (s0_2 * 6364136223846793005)) + 1442695040888963407)) / 35184372088832)) 255) + (wrap64 (rd s0_0 s0_1)))) 255, wrap64 (s0_1 + 1), wrap64 ((wrap64 (s0_2 * 6364136223846793005)) + 1442695040888963407))) else (none)) else (some (Go.bits .and .i64 (Go.bits .xor .i64 ((wrap64 ((wrap64 (s0_2 * 6364136223846793005)) + 1442695040888963407)) / 8589934592) ((wrap64 ((wrap64 (s0_2 * 6364136223846793005)) + 1442695040888963407)) / 35184372088832)) 255, s0_1, wrap64 ((wrap64 (s0_2 * 6364136223846793005)) + 1442695040888963407)))
set_option maxHeartbeats 8000000 in
set_option maxRecDepth 100000 in
theorem spec_l1Byte.calls (g : Nat) (s0_0 : List Int) (s0_1 : Int) (s0_2 : Int) (r1 : Int) (r2 : Int) (r3 : Int) (w0 w : World) (hI : IsS124 w0 w g s0_0 s0_1 s0_2) (hB : Below w0.heap.size w0 w) (h : spec_l1Byte.f s0_0 s0_1 s0_2 = some (r1, r2, r3)) :
    Calls Try.prog 126 #[.pointer (some ⟨g, 0, none⟩)] w fun e w' => e = .returned (.int .i64 r1) ∧ IsS124 w0 w' g s0_0 r2 r3 ∧ Below w0.heap.size w0 w' ∧ KeepBut w w' g none := by
  have HI0 := Aside0.mk hI
  have HK := Aside0.mk (KeepBut.refl w g none)
  have HL := Aside0.mk hB.size
  clear hI
  have HW0 := Aside0.mk hB.size
  have HB := Aside0.mk hB
  clear hB
  have H := h
  unfold spec_l1Byte.f at H
  clear h
  by_cases c2 : s0_1 < (s0_0.length : Int)
  · rw [if_pos c2] at H
    have c2b0 := decide_eq_true c2
    clear c2
    replace H := ifP H; obtain ⟨c3, H⟩ := H
    have c3b0 := decide_eq_true c3
    clear c3
    simp only [Option.some.injEq, Prod.mk.injEq] at H
    obtain ⟨rfl, rfl, rfl⟩ := H
    obtain ⟨ASzz1, cSzz1, HGzz1, hgzz1, HSzz1⟩ := HI0.out
    have hczz1 := cellS124_0 HGzz1
    have hczz2 := cellS124_1 HGzz1
    have hczz3 := cellS124_2 HGzz1
    have hfzz1 := blk_frozen HGzz1 1
    have hfzz2 := blk_frozen HGzz1 2
    clear HGzz1 hgzz1
    have pz1 : 0 ≤ (s0_1 : Int) := of_decide_eq_true (by first | (with_reducible assumption) | assumption)
    have qz1 : s0_1 < (s0_0.length : Int) := of_decide_eq_true (by first | (with_reducible assumption) | assumption)
    obtain ⟨adz1, ez1, hxz1⟩ := Kd.at_int HSzz1 s0_1 pz1 qz1
    cases ez1
    have hnz1 : adz1.block ≠ g := Nat.ne_of_lt (Nat.lt_of_lt_of_le (by have := World.block_lt_of_cell? _ _ hxz1; first | rwa [add_block] at this | exact this) (IsS124.ge HI0.out))
    replace hxz1 := pw_cell_below HB.out hxz1
    replace hxz1 := (cell_far (p := ⟨g, 2, none⟩) (by first | (rw [add_block]; exact hnz1) | (show (Addr.add _ _).block ≠ _; rw [add_block]; exact hnz1) | exact hnz1) (.int .i64 (wrap64 ((wrap64 (s0_2 * 6364136223846793005)) + 1442695040888963407)))).trans hxz1
    (try have hy101_0 := fun (n_ : Nat) => (show (((w.drewN n_).setCell ⟨g, 2, none⟩ (.int .i64 (wrap64 ((wrap64 (s0_2 * 6364136223846793005)) + 1442695040888963407))))).cell? _ = some _ from hxz1))
    clear hnz1
    replace pz1 := eq_true pz1
    replace qz1 := eq_true qz1
    go_enter Try.func126, Try.ntmps126
    go_wp2
    repeat (go_quiet (fail); try go_wp2)
    go_ret
    exact ⟨rE, (i124 HI0.out), (hY HB.out (IsS124.ge HI0.out)), (kX HK.out)⟩
  · rw [if_neg c2] at H
    have c2b0 := decide_eq_false c2
    clear c2
    simp only [Option.some.injEq, Prod.mk.injEq] at H
    obtain ⟨rfl, rfl, rfl⟩ := H
    obtain ⟨ASzz1, cSzz1, HGzz1, hgzz1, HSzz1⟩ := HI0.out
    have hczz1 := cellS124_0 HGzz1
    have hczz2 := cellS124_1 HGzz1
    have hczz3 := cellS124_2 HGzz1
    have hfzz1 := blk_frozen HGzz1 1
    have hfzz2 := blk_frozen HGzz1 2
    clear HGzz1 hgzz1
    go_enter Try.func126, Try.ntmps126
    go_wp2
    repeat (go_quiet (fail); try go_wp2)
    go_ret
    exact ⟨rE, (i124 HI0.out), (hY HB.out (IsS124.ge HI0.out)), (kX HK.out)⟩
end Go.Proofs.Yteamagejhbkhnaa.P
namespace Go.Proofs.Yteamagejhbkhnaa.P
open Go.Proofs.YteamagejhbkhnaaZ Go.RowKit Go.Proofs.YteamagejhbkhnaaW.PrintWords Go.Proofs.YteamagejhbkhnaaW.PrintLast Go.Proofs.YteamagejhbkhnaaW.PrintMore
attribute [local go_sem] max2_int min2_int max_two min_two max_three min_three max_four min_four   -- for this text's walks alone
set_option linter.unusedVariables false
set_option linter.unusedSimpArgs false
def spec_l1Below.f (s0_0 : List Int) (s0_1 : Int) (s0_2 : Int) (a1 : Int) : Option (Int × Int × Int) := if a1 ≤ 0 then (some (0, s0_1, s0_2)) else (if a1 ≤ 256 then ((spec_l1Byte.f s0_0 s0_1 s0_2).bind fun bt101 => (if a1 = 0 then (none) else (some (Int.tmod bt101.1 a1, bt101.2.1, bt101.2.2)))) else ((spec_l1Byte.f s0_0 s0_1 s0_2).bind fun bt104 => ((spec_l1Byte.f s0_0 bt104.2.1 bt104.2.2).bind fun bt107 => ((spec_l1Byte.f s0_0 bt107.2.1 bt107.2.2).bind fun bt110 => ((spec_l1Byte.f s0_0 bt110.2.1 bt110.2.2).bind fun bt113 => (if a1 = 0 then (none) else (some (Int.tmod (wrap64 ((wrap64 ((wrap64 ((wrap64 (bt104.1 * 16777216)) + (wrap64 (bt107.1 * 65536)))) + (wrap64 (bt110.1 * 256)))) + bt113.1)) a1, bt113.2.1, bt113.2.2))))))))
set_option maxHeartbeats 8000000 in
set_option maxRecDepth 100000 in
theorem spec_l1Below.calls (g : Nat) (s0_0 : List Int) (s0_1 : Int) (s0_2 : Int) (a1 : Int) (r1 : Int) (r2 : Int) (r3 : Int) (w0 w : World) (hI : IsS124 w0 w g s0_0 s0_1 s0_2) (hB : Below w0.heap.size w0 w) (h : spec_l1Below.f s0_0 s0_1 s0_2 a1 = some (r1, r2, r3)) :
    Calls Try.prog 88 #[.pointer (some ⟨g, 0, none⟩), .int .i64 a1] w fun e w' => e = .returned (.int .i64 r1) ∧ IsS124 w0 w' g s0_0 r2 r3 ∧ Below w0.heap.size w0 w' ∧ KeepBut w w' g none := by
  have HI0 := Aside0.mk hI
  have HK := Aside0.mk (KeepBut.refl w g none)
  have HL := Aside0.mk hB.size
  clear hI
  have HW0 := Aside0.mk hB.size
  have HB := Aside0.mk hB
  clear hB
  have H := h
  unfold spec_l1Below.f at H
  clear h
  go_enter Try.func88, Try.ntmps88
  by_cases c3 : a1 ≤ 0
  · rw [if_pos c3] at H
    have c3b0 := decide_eq_true c3
    clear c3
    simp only [Option.some.injEq, Prod.mk.injEq] at H
    obtain ⟨rfl, rfl, rfl⟩ := H
    go_wp2
    go_ret
    exact ⟨rE, (i124 HI0.out), (hY HB.out (IsS124.ge HI0.out)), (kX HK.out)⟩
  · rw [if_neg c3] at H
    have c3b0 := decide_eq_false c3
    clear c3
    by_cases c4 : a1 ≤ 256
    · rw [if_pos c4] at H
      have c4b0 := decide_eq_true c4
      clear c4
      replace H := bE H; obtain ⟨⟨t101, t102, t103⟩, A5, H⟩ := H
      try dsimp only at H
      replace H := ifN H; obtain ⟨c6, H⟩ := H
      obtain ⟨c6b0, c6b1⟩ := eqF c6
      simp only [Option.some.injEq, Prod.mk.injEq] at H
      obtain ⟨rfl, rfl, rfl⟩ := H
      go_wp2_with (first | (refine goesM 126 14 Try.func126 #[.pointer (some ⟨g, 0, none⟩)] ?_; refine (spec_l1Byte.calls g s0_0 s0_1 s0_2 t101 t102 t103 w0 _ (by repeat (first | (with_reducible first | exact HI0.out | apply IsS124.alloc | apply IsS124.drewN | apply IsS124.drew | apply IsS124.set_1 | apply IsS124.set_2) | exact HI0.out)) (by repeat (first | (with_reducible first | exact HB.out | apply below_alloc | apply pw_below_drewN | apply below_drew1 | refine below_set ?_ (IsS124.ge HI0.out)) | exact HB.out)) A5.out).mono ?_; rintro e wz1 ⟨rfl, hi, hb, hk⟩; refine ⟨_, rfl, ?_⟩; replace HK := Aside0.mk (KeepBut.trans (kX HK.out) hk (.inl rfl)); replace HB := Aside0.mk (hb); replace HI0 := Aside0.mk (hi); clear hb hk hi))
      go_ret
      exact ⟨rE, (i124 HI0.out), (hY HB.out (IsS124.ge HI0.out)), (kX HK.out)⟩
    · rw [if_neg c4] at H
      have c4b0 := decide_eq_false c4
      clear c4
      replace H := bE H; obtain ⟨⟨t104, t105, t106⟩, A8, H⟩ := H
      try dsimp only at H
      replace H := bE H; obtain ⟨⟨t107, t108, t109⟩, A9, H⟩ := H
      try dsimp only at H
      replace H := bE H; obtain ⟨⟨t110, t111, t112⟩, A10, H⟩ := H
      try dsimp only at H
      replace H := bE H; obtain ⟨⟨t113, t114, t115⟩, A11, H⟩ := H
      try dsimp only at H
      replace H := ifN H; obtain ⟨c12, H⟩ := H
      obtain ⟨c12b0, c12b1⟩ := eqF c12
      simp only [Option.some.injEq, Prod.mk.injEq] at H
      obtain ⟨rfl, rfl, rfl⟩ := H
      go_wp2_with (first | (refine goesM 126 18 Try.func126 #[.pointer (some ⟨g, 0, none⟩)] ?_; refine (spec_l1Byte.calls g s0_0 s0_1 s0_2 t104 t105 t106 w0 _ (by repeat (first | (with_reducible first | exact HI0.out | apply IsS124.alloc | apply IsS124.drewN | apply IsS124.drew | apply IsS124.set_1 | apply IsS124.set_2) | exact HI0.out)) (by repeat (first | (with_reducible first | exact HB.out | apply below_alloc | apply pw_below_drewN | apply below_drew1 | refine below_set ?_ (IsS124.ge HI0.out)) | exact HB.out)) A8.out).mono ?_; rintro e wz1 ⟨rfl, hi, hb, hk⟩; refine ⟨_, rfl, ?_⟩; replace HK := Aside0.mk (KeepBut.trans (kX HK.out) hk (.inl rfl)); replace HB := Aside0.mk (hb); replace HI0 := Aside0.mk (hi); clear hb hk hi) | (refine goesM 126 20 Try.func126 #[.pointer (some ⟨g, 0, none⟩)] ?_; refine (spec_l1Byte.calls g s0_0 t105 t106 t107 t108 t109 w0 _ (by repeat (first | (with_reducible first | exact HI0.out | apply IsS124.alloc | apply IsS124.drewN | apply IsS124.drew | apply IsS124.set_1 | apply IsS124.set_2) | exact HI0.out)) (by repeat (first | (with_reducible first | exact HB.out | apply below_alloc | apply pw_below_drewN | apply below_drew1 | refine below_set ?_ (IsS124.ge HI0.out)) | exact HB.out)) A9.out).mono ?_; rintro e wz2 ⟨rfl, hi, hb, hk⟩; refine ⟨_, rfl, ?_⟩; replace HK := Aside0.mk (KeepBut.trans (kX HK.out) hk (.inl rfl)); replace HB := Aside0.mk (hb); replace HI0 := Aside0.mk (hi); clear hb hk hi) | (refine goesM 126 22 Try.func126 #[.pointer (some ⟨g, 0, none⟩)] ?_; refine (spec_l1Byte.calls g s0_0 t108 t109 t110 t111 t112 w0 _ (by repeat (first | (with_reducible first | exact HI0.out | apply IsS124.alloc | apply IsS124.drewN | apply IsS124.drew | apply IsS124.set_1 | apply IsS124.set_2) | exact HI0.out)) (by repeat (first | (with_reducible first | exact HB.out | apply below_alloc | apply pw_below_drewN | apply below_drew1 | refine below_set ?_ (IsS124.ge HI0.out)) | exact HB.out)) A10.out).mono ?_; rintro e wz3 ⟨rfl, hi, hb, hk⟩; refine ⟨_, rfl, ?_⟩; replace HK := Aside0.mk (KeepBut.trans (kX HK.out) hk (.inl rfl)); replace HB := Aside0.mk (hb); replace HI0 := Aside0.mk (hi); clear hb hk hi) | (refine goesM 126 24 Try.func126 #[.pointer (some ⟨g, 0, none⟩)] ?_; refine (spec_l1Byte.calls g s0_0 t111 t112 t113 t114 t115 w0 _ (by repeat (first | (with_reducible first | exact HI0.out | apply IsS124.alloc | apply IsS124.drewN | apply IsS124.drew | apply IsS124.set_1 | apply IsS124.set_2) | exact HI0.out)) (by repeat (first | (with_reducible first | exact HB.out | apply below_alloc | apply pw_below_drewN | apply below_drew1 | refine below_set ?_ (IsS124.ge HI0.out)) | exact HB.out)) A11.out).mono ?_; rintro e wz4 ⟨rfl, hi, hb, hk⟩; refine ⟨_, rfl, ?_⟩; replace HK := Aside0.mk (KeepBut.trans (kX HK.out) hk (.inl rfl)); replace HB := Aside0.mk (hb); replace HI0 := Aside0.mk (hi); clear hb hk hi))
      go_ret
      exact ⟨rE, (i124 HI0.out), (hY HB.out (IsS124.ge HI0.out)), (kX HK.out)⟩
end Go.Proofs.Yteamagejhbkhnaa.P
namespace Go.Proofs.Yteamagejhbkhnaa.P
open Go.Proofs.YteamagejhbkhnaaZ Go.RowKit Go.Proofs.YteamagejhbkhnaaW.PrintWords Go.Proofs.YteamagejhbkhnaaW.PrintLast Go.Proofs.YteamagejhbkhnaaW.PrintMore
attribute [local go_sem] max2_int min2_int max_two min_two max_three min_three max_four min_four   -- for this text's walks alone
set_option linter.unusedVariables false
set_option linter.unusedSimpArgs false
def spec_l1PickInt.f (s0_0 : List Int) (s0_1 : Int) (s0_2 : Int) (l1 : List Int) : Option (Int × Int × Int) := (spec_l1Below.f s0_0 s0_1 s0_2 (l1.length : Int)).bind fun bt101 => (if 0 ≤ bt101.1 then (if bt101.1 < (l1.length : Int) then (some (rd l1 bt101.1, bt101.2.1, bt101.2.2)) else (none)) else (none))
set_option maxHeartbeats 8000000 in
set_option maxRecDepth 100000 in
theorem spec_l1PickInt.calls (g : Nat) (s0_0 : List Int) (s0_1 : Int) (s0_2 : Int) (A1 : Option Addr) (c1 : Nat) (l1 : List Int) (r1 : Int) (r2 : Int) (r3 : Int) (w0 w : World) (hI : IsS124 w0 w g s0_0 s0_1 s0_2) (hB : Below w0.heap.size w0 w) (hr1 : Kd.C (Kd.int .i64) w A1 l1.length l1) (hc1 : l1.length ≤ c1) (hf1 : ∀ ad, A1 = some ad → 0 < l1.length → ad.block ≠ g) (h : spec_l1PickInt.f s0_0 s0_1 s0_2 l1 = some (r1, r2, r3)) :
    Calls Try.prog 125 #[.pointer (some ⟨g, 0, none⟩), .slice A1 l1.length c1] w fun e w' => e = .returned (.int .i64 r1) ∧ IsS124 w0 w' g s0_0 r2 r3 ∧ Below w0.heap.size w0 w' ∧ KeepBut w w' g none := by
  have HR1 := Aside0.mk hr1
  have HC1 := Aside0.mk hc1
  clear hr1 hc1
  have HI0 := Aside0.mk hI
  have HK := Aside0.mk (KeepBut.refl w g none)
  have HL := Aside0.mk hB.size
  clear hI
  have HW0 := Aside0.mk hB.size
  have HB := Aside0.mk hB
  clear hB
  have H := h
  unfold spec_l1PickInt.f at H
  clear h
  replace H := bE H; obtain ⟨⟨t101, t102, t103⟩, A3, H⟩ := H
  try dsimp only at H
  replace H := ifP H; obtain ⟨c4, H⟩ := H
  have c4b0 := decide_eq_true c4
  clear c4
  replace H := ifP H; obtain ⟨c5, H⟩ := H
  have c5b0 := decide_eq_true c5
  clear c5
  simp only [Option.some.injEq, Prod.mk.injEq] at H
  obtain ⟨rfl, rfl, rfl⟩ := H
  go_enter Try.func125, Try.ntmps125
  go_wp2_with (first | (refine goesM 88 9 Try.func88 #[.pointer (some ⟨g, 0, none⟩), .int .i64 (l1.length : Int)] ?_; refine (spec_l1Below.calls g s0_0 s0_1 s0_2 (l1.length : Int) t101 t102 t103 w0 _ (by repeat (first | (with_reducible first | exact HI0.out | apply IsS124.alloc | apply IsS124.drewN | apply IsS124.drew | apply IsS124.set_1 | apply IsS124.set_2) | exact HI0.out)) (by repeat (first | (with_reducible first | exact HB.out | apply below_alloc | apply pw_below_drewN | apply below_drew1 | refine below_set ?_ (IsS124.ge HI0.out)) | exact HB.out)) A3.out).mono ?_; rintro e wz1 ⟨rfl, hi, hb, hk⟩; refine ⟨_, rfl, ?_⟩; replace HK := Aside0.mk (KeepBut.trans (kX HK.out) hk (.inl rfl)); replace HB := Aside0.mk (hb); replace HI0 := Aside0.mk (hi); clear hb hk hi; have pz1 : 0 ≤ (t101 : Int) := of_decide_eq_true (by first | (with_reducible assumption) | assumption); have qz1 : t101 < (l1.length : Int) := of_decide_eq_true (by first | (with_reducible assumption) | assumption); obtain ⟨adz1, ez1, hxz1⟩ := Kd.at_int HR1.out t101 pz1 qz1; cases ez1; replace hxz1 := keep_cell HK.out hxz1 (by first | (rw [add_block]; exact hf1 _ rfl (by omega)) | exact hf1 _ rfl (by omega) | exact hf1 adz1 rfl (by omega)); replace pz1 := eq_true pz1; replace qz1 := eq_true qz1))
  go_ret
  exact ⟨rE, (i124 HI0.out), (hY HB.out (IsS124.ge HI0.out)), (kX HK.out)⟩
end Go.Proofs.Yteamagejhbkhnaa.P
namespace Go.Proofs.Yteamagejhbkhnaa.P
open Go.Proofs.YteamagejhbkhnaaZ Go.RowKit Go.Proofs.YteamagejhbkhnaaW.PrintWords Go.Proofs.YteamagejhbkhnaaW.PrintLast Go.Proofs.YteamagejhbkhnaaW.PrintMore
attribute [local go_sem] max2_int min2_int max_two min_two max_three min_three max_four min_four   -- for this text's walks alone
set_option linter.unusedVariables false
set_option linter.unusedSimpArgs false
def spec_RowsNew.f  : Option (List Int × Int) := if 4 ≤ 35184372088832 then (some ((List.replicate 4 0), 0)) else (none)
set_option maxHeartbeats 8000000 in
set_option maxRecDepth 100000 in
theorem spec_RowsNew.calls  (r1 : List Int) (r2 : Int) (w : World) (h : spec_RowsNew.f  = some (r1, r2)) :
    Calls Try.prog 45 #[] w fun e w' => ∃ v0_ : Value, e = .returned (.agg #[v0_, .int .i64 r2]) ∧ Kd.R (Kd.int .i64) 3 w' w.heap.size (fun _ => True) v0_ r1 ∧ Below w.heap.size w w' := by
  have hu24 := Try.underlying24
  have HB := Aside0.mk (Below.refl w.heap.size w)
  have H := h
  unfold spec_RowsNew.f at H
  clear h
  replace H := ifP H; obtain ⟨c1, H⟩ := H
  have c1b0 := eq_true c1
  have c1b1 := decide_eq_true c1
  clear c1
  obtain ⟨y102, hy102⟩ : ∃ y_ : List Int, y_ = (List.replicate 4 0) := ⟨_, rfl⟩
  replace H : (some (y102, 0)) = some (r1, r2) := yH H hy102
  have Ny102 := Aside0.mk hy102
  clear hy102
  simp only [Option.some.injEq, Prod.mk.injEq] at H
  obtain ⟨rfl, rfl⟩ := H
  go_enter Try.func45, Try.ntmps45
  go_wp2_with (first | (refine boxE 0 #[.slice none 0 0, .int .i64 0] 24 ?_; intro gbz1 hg wz1 hbox hb; have BKz1 := Aside0.mk (hbox); have GWz1 := Aside0.mk (gX' hg (hX HB.out)); have GEz1 := Aside0.mk (gX' hg (hX HB.out)); replace HB := Aside0.mk (below_step (hX HB.out) hb); clear hb hbox hg) | ((with_reducible refine gate_dst (N := 1) rfl ?_); refine Kd.R_make (Kd.int .i64) _ 3 rfl (N := 1) rfl 22 _ _ rfl 4 rfl rfl Try.underlying22 (.int .i64 0) 8 info3 rfl (by decide) (by omega) 0 (ok := fun _ => True) (okp := fun _ => True) rfl (fun _ hk => hk) trivial (by omega) (by omega) (Below.refl _ _) (Nat.le_refl _) ?_; intro vz1 wz2 hoz1 hb hg_ hnew_; clear hg_ hnew_; (first | rw [← Ny102.out] at hoz1 | (simp only [Int.reduceToNat] at hoz1; rw [← Ny102.out] at hoz1)); have HOz1 := Aside0.mk (Kd.R_lower hoz1 (below_size (hX HB.out))); replace BKz1 := Aside0.mk (blk_below (bX BKz1.out) hb); replace HB := Aside0.mk (below_step (hX HB.out) hb); clear hb hoz1; obtain ⟨Aoz1, coz1, eoz1⟩ := Kd.R_slice HOz1.out; subst eoz1; obtain ⟨hczz1, hczz2, hfzz1, hfzz2⟩ := cZ2 BKz1.out))
  refine bodyPost_ret (results_cell_row rfl _ _ gbz1 24 #[.slice Aoz1 y102.length coz1, .int .i64 0] (0, 0) _ rfl (bP BKz1.out) Try.underlying24 rfl (by kernel_rfl)) rfl ?_
  exact ⟨_, rE, (rT (h := by exact Kd.R_mono (Kd.R_far (p := ⟨gbz1, 1, none⟩) (Kd.R_far (p := ⟨gbz1, 0, none⟩) (Kd.R_types HOz1.out BKz1.out (by decide)) (fun _ hk => hk.2) (.slice Aoz1 y102.length coz1)) (fun _ hk => hk.2) (.int .i64 0)) (fun _ hk => trivial))), (hX HB.out)⟩
end Go.Proofs.Yteamagejhbkhnaa.P
namespace Go.Proofs.Yteamagejhbkhnaa.P
open Go.Proofs.YteamagejhbkhnaaZ Go.RowKit Go.Proofs.YteamagejhbkhnaaW.PrintWords Go.Proofs.YteamagejhbkhnaaW.PrintLast Go.Proofs.YteamagejhbkhnaaW.PrintMore
attribute [local go_sem] max2_int min2_int max_two min_two max_three min_three max_four min_four   -- for this text's walks alone
set_option linter.unusedVariables false
set_option linter.unusedSimpArgs false
def spec_l3DrawRight.l0 : Nat → Int → List Int → Int → Int → List Int → Int → Option (List Int × Int × Int × Int)
  | 0, _, _, _, _, _, _ => none
  | k + 1, x4, x1000, x1001, x1002, x107000, x107001 => if x4 < 4 then ((spec_l1Below.f x1000 x1001 x1002 7).bind fun bt113 => ((spec_KeyOf.f k x107000 x107001 bt113.1).bind fun t116 => (if t116 < 0 then (if 0 ≤ x4 then (if x4 < (x107000.length : Int) then (spec_l3DrawRight.l0 k (wrap64 (x4 + 1)) x1000 bt113.2.1 bt113.2.2 (x107000.set (x4 : Int).toNat bt113.1) x107001) else (none)) else (none)) else (spec_l3DrawRight.l0 k (wrap64 (x4 + 1)) x1000 bt113.2.1 bt113.2.2 x107000 x107001)))) else ((spec_l1PickInt.f x1000 x1001 x1002 (([0, 0, 1, 3, 5] : List Int))).bind fun bt110 => (some (x107000, bt110.1, bt110.2.1, bt110.2.2)))
def spec_l3DrawRight.f (k : Nat) (s0_0 : List Int) (s0_1 : Int) (s0_2 : Int) : Option (List Int × Int × Int × Int) := (spec_RowsNew.f).bind fun bt102 => (spec_l3DrawRight.l0 k 0 s0_0 s0_1 s0_2 bt102.1 bt102.2)
set_option maxHeartbeats 8000000 in
set_option maxRecDepth 100000 in
theorem spec_l3DrawRight.calls (k : Nat) (g : Nat) (s0_0 : List Int) (s0_1 : Int) (s0_2 : Int) (r1 : List Int) (r2 : Int) (r3 : Int) (r4 : Int) (w0 w : World) (hI : IsS124 w0 w g s0_0 s0_1 s0_2) (hB : Below w0.heap.size w0 w) (h : spec_l3DrawRight.f k s0_0 s0_1 s0_2 = some (r1, r2, r3, r4)) :
    Calls Try.prog 124 #[.pointer (some ⟨g, 0, none⟩)] w fun e w' => ∃ v0_ : Value, e = .returned (.agg #[v0_, .int .i64 r2]) ∧ Kd.R (Kd.int .i64) 3 w' w.heap.size (fun _ => True) v0_ r1 ∧ IsS124 w0 w' g s0_0 r3 r4 ∧ Below w0.heap.size w0 w' ∧ KeepBut w w' g none := by
  have hu24 := Try.underlying24
  have HI0 := Aside0.mk hI
  have HK := Aside0.mk (KeepBut.refl w g none)
  have HL := Aside0.mk hB.size
  clear hI
  have HW0 := Aside0.mk hB.size
  have HB := Aside0.mk hB
  clear hB
  have H := h
  unfold spec_l3DrawRight.f at H
  clear h
  replace H := bE H; obtain ⟨⟨t102, t105⟩, A2, H⟩ := H
  try dsimp only at H
  have H' := Aside0.mk H
  clear H
  go_enter Try.func124, Try.ntmps124
  go_wp2_with (first | (refine boxE 2 #[.slice none 0 0, .int .i64 0] 24 ?_; intro gbz1 hg wz1 hbox hb; have BKz1 := Aside0.mk (hbox); have GWz1 := Aside0.mk ((by rw [hg]; exact (keep_size (w := w) (g := g) (row := none) (kX HK.out)) : w.heap.size ≤ gbz1)); have GEz1 := Aside0.mk ((Nat.le_trans HW0.out (by rw [hg]; exact (keep_size (w := w) (g := g) (row := none) (kX HK.out)) : w.heap.size ≤ gbz1) : w0.heap.size ≤ gbz1)); have NBz1 := Aside0.mk ((by rw [hg]; exact Nat.ne_of_lt (IsS124.lt (show IsS124 w0 _ g s0_0 s0_1 s0_2 from (i124 HI0.out))) : g ≠ gbz1)); have NBz2 := Aside0.mk ((by rw [hg]; exact Nat.ne_of_gt (IsS124.lt (show IsS124 w0 _ g s0_0 s0_1 s0_2 from (i124 HI0.out))) : gbz1 ≠ g)); replace HK := Aside0.mk (KeepBut.trans (kX HK.out) (KeepBut.of_below hb g none) (.inl rfl)); replace HB := Aside0.mk (below_step (hY HB.out (IsS124.ge HI0.out)) hb); replace HI0 := Aside0.mk (IsS124.below (i124 HI0.out) hb); clear hb hbox hg) | (refine goesM 45 6 Try.func45 #[] ?_; refine (spec_RowsNew.calls  t102 t105 _ A2.out).mono ?_; rintro e wz2 ⟨vz1, rfl, hoz1, hb⟩; refine ⟨_, rfl, ?_⟩; have HOz1 := Aside0.mk (Kd.R_lower hoz1 (keep_size (w := w) (g := g) (row := none) (kX HK.out))); replace BKz1 := Aside0.mk (blk_below (bX BKz1.out) hb); replace HK := Aside0.mk (KeepBut.trans (kX HK.out) (KeepBut.of_below hb g none) (.inl rfl)); replace HB := Aside0.mk (below_step (hY HB.out (IsS124.ge HI0.out)) hb); replace HI0 := Aside0.mk (IsS124.below (i124 HI0.out) hb); clear hb hoz1) | (refine boxE 3 #[.slice none 0 0, .int .i64 0] 24 ?_; intro gbz2 hg wz3 hbox hb; have BKz2 := Aside0.mk (hbox); have GWz2 := Aside0.mk ((by rw [hg]; exact (keep_size (w := w) (g := g) (row := none) (kX HK.out)) : w.heap.size ≤ gbz2)); have GEz2 := Aside0.mk ((Nat.le_trans HW0.out (by rw [hg]; exact (keep_size (w := w) (g := g) (row := none) (kX HK.out)) : w.heap.size ≤ gbz2) : w0.heap.size ≤ gbz2)); have NBz3 := Aside0.mk (gL hg (bX BKz1.out)); have NBz4 := Aside0.mk (gG hg (bX BKz1.out)); have NBz5 := Aside0.mk ((by rw [hg]; exact Nat.ne_of_lt (IsS124.lt (show IsS124 w0 _ g s0_0 s0_1 s0_2 from (i124 HI0.out))) : g ≠ gbz2)); have NBz6 := Aside0.mk ((by rw [hg]; exact Nat.ne_of_gt (IsS124.lt (show IsS124 w0 _ g s0_0 s0_1 s0_2 from (i124 HI0.out))) : gbz2 ≠ g)); replace HOz1 := Aside0.mk (Kd.R_below (rX HOz1.out) hb); replace BKz1 := Aside0.mk (blk_below (bX BKz1.out) hb); replace HK := Aside0.mk (KeepBut.trans (kX HK.out) (KeepBut.of_below hb g none) (.inl rfl)); replace HB := Aside0.mk (below_step (hY HB.out (IsS124.ge HI0.out)) hb); replace HI0 := Aside0.mk (IsS124.below (i124 HI0.out) hb); clear hb hbox hg; obtain ⟨Aoz1, coz1, eoz1⟩ := Kd.R_slice HOz1.out; subst eoz1; have hnbz1 := NBz4.out; have hncz1 := NBz3.out; have hnbz2 := NBz6.out; have hncz2 := NBz5.out; obtain ⟨hczz1, hczz2, hfzz1, hfzz2⟩ := cZ2 BKz2.out))
  go_loopg [4] k (fun kq v4 w' => ∃ (x4_1 : Int) (x1001_1 : Int) (x1002_1 : Int) (x107000_1 : List Int) (u107000 : Value), v4 = .int .i64 x4_1 ∧ Aside0 (spec_l3DrawRight.l0 kq x4_1 s0_0 x1001_1 x1002_1 x107000_1 t105 = some (r1, r2, r3, r4)) ∧ Aside0 (kq ≤ k) ∧ Aside0 (Kd.R (Kd.int .i64) 3 w' w.heap.size (fun _ => True) u107000 x107000_1) ∧ Aside0 (w'.heap[gbz1]? = some (.cells #[(.slice none 0 0), .int .i64 0] 24 (0, 0))) ∧ Aside0 (w'.heap[gbz2]? = some (.cells #[u107000, .int .i64 t105] 24 (0, 0))) ∧ Aside0 (IsS124 w0 w' g s0_0 x1001_1 x1002_1) ∧ Aside0 (KeepBut w w' g none) ∧ Aside0 (Below w0.heap.size w0 w'))
  case atStart => exact ⟨(0), (s0_1), (s0_2), (t102), (.slice Aoz1 t102.length coz1), rS, H', ⟨Nat.le_refl _⟩, ⟨(rT (h := by exact Kd.R_mono (Kd.R_far (p := ⟨gbz2, 1, none⟩) (Kd.R_far (p := ⟨gbz2, 0, none⟩) (Kd.R_types HOz1.out BKz2.out (by decide)) (fun _ hk => hk.2) (.slice Aoz1 t102.length coz1)) (fun _ hk => hk.2) (.int .i64 t105)) (fun _ hk => trivial)))⟩, ⟨(bF BKz1.out)⟩, ⟨(bP BKz2.out)⟩, ⟨(i124 HI0.out)⟩, ⟨(kX HK.out)⟩, ⟨(hY HB.out (IsS124.ge HI0.out))⟩⟩
  case round =>
    clear H'
    try clear c1
    try clear p2
    try clear c4
    try clear c7
    try clear c8
    try clear hczz1
    try clear hczz2
    try clear hfzz1
    try clear hfzz2
    obtain ⟨x4_1, x1001_1, x1002_1, x107000_1, u107000, rfl, HA, HKy1, HO_y1, BKz1, BKz2, HI0, HK, HB⟩ := hrel
    cases gk with
    | zero => exact absurd HA.out (by simp [spec_l3DrawRight.l0])
    | succ k1 =>
      have H := HA.out
      clear HA
      simp only [spec_l3DrawRight.l0] at H
      by_cases c10 : x4_1 < 4
      · rw [if_pos c10] at H
        have c10b0 := decide_eq_true c10
        clear c10
        replace H := bE H; obtain ⟨⟨t113, t114, t115⟩, A11, H⟩ := H
        try dsimp only at H
        replace H := bE H; obtain ⟨t116, A12, H⟩ := H
        go_wp2_with (first | (refine goesM 88 12 Try.func88 #[.pointer (some ⟨g, 0, none⟩), .int .i64 7] ?_; refine (spec_l1Below.calls g s0_0 x1001_1 x1002_1 7 t113 t114 t115 w0 _ (by repeat (first | (with_reducible first | exact HI0.out | apply IsS124.alloc | apply IsS124.drewN | apply IsS124.drew | apply IsS124.set_1 | apply IsS124.set_2 | refine IsS124.far ?_ NBz1.out _ | refine IsS124.far ?_ NBz5.out _) | exact HI0.out)) (by repeat (first | (with_reducible first | exact HB.out | apply below_alloc | apply pw_below_drewN | apply below_drew1 | refine below_set ?_ (IsS124.ge HI0.out) | refine below_set ?_ GEz1.out | refine below_set ?_ GEz2.out) | exact HB.out)) A11.out).mono ?_; rintro e wx1 ⟨rfl, hi, hb, hk⟩; refine ⟨_, rfl, ?_⟩; replace HO_y1 := Aside0.mk (Kd.R_mono (Kd.R_keep (IsS124.apart (show IsS124 w0 _ g s0_0 x1001_1 x1002_1 from (i124 HI0.out)) (rX HO_y1.out) (by decide)) hk (fun _ h => h.2)) (fun _ h => h.1)); replace BKz1 := Aside0.mk (KeepBut.blk hk (g' := gbz1) (o := .cells #[.slice none 0 0, .int .i64 0] 24 (0, 0)) (bX BKz1.out) NBz2.out (by simp)); replace BKz2 := Aside0.mk (KeepBut.blk hk (g' := gbz2) (o := .cells #[u107000, .int .i64 t105] 24 (0, 0)) (bX BKz2.out) NBz6.out (by simp)); replace HK := Aside0.mk (KeepBut.trans (kX HK.out) hk (.inl rfl)); replace HB := Aside0.mk (hb); replace HI0 := Aside0.mk (hi); clear hb hk hi; have hnbx1 := NBz4.out; have hncx1 := NBz3.out; have hnbx2 := NBz6.out; have hncx2 := NBz5.out; obtain ⟨hczx1, hczx2, hfzx1, hfzx2⟩ := cZ2 BKz2.out; obtain ⟨Aox1, cox1, eox1⟩ := Kd.R_slice HO_y1.out; subst eox1; refine Stop.out ?_))
        refine ⟨?_⟩
        by_cases c13 : t116 < 0
        · rw [if_pos c13] at H
          have c13b0 := decide_eq_true c13
          clear c13
          replace H := ifP H; obtain ⟨c14, H⟩ := H
          have c14b0 := decide_eq_true c14
          clear c14
          replace H := ifP H; obtain ⟨c15, H⟩ := H
          have c15b0 := decide_eq_true c15
          clear c15
          obtain ⟨y117, hy117⟩ : ∃ y_ : List Int, y_ = (x107000_1.set (x4_1 : Int).toNat t113) := ⟨_, rfl⟩
          replace H : (spec_l3DrawRight.l0 k1 (wrap64 (x4_1 + 1)) s0_0 t114 t115 y117 t105) = some (r1, r2, r3, r4) := yH H hy117
          have Ny117 := Aside0.mk hy117
          clear hy117
          have H' := Aside0.mk H
          clear H
          go_wp2_with (first | (refine goesM 41 15 Try.func41 #[.agg #[.slice Aox1 x107000_1.length cox1, .int .i64 t105], .int .i64 t113] ?_; refine (spec_KeyOf.calls k1 _ _ x107000_1 t105 t113 t116 _ (cX (Kd.R_reads' HO_y1.out).2.2) ((Kd.R_reads' HO_y1.out).2.1) A12.out).mono ?_; rintro e wx2 ⟨rfl, hb⟩; refine ⟨_, rfl, ?_⟩; replace HO_y1 := Aside0.mk (Kd.R_below (rX HO_y1.out) hb); replace BKz1 := Aside0.mk (blk_below (bX BKz1.out) hb); replace BKz2 := Aside0.mk (blk_below (bX BKz2.out) hb); replace HK := Aside0.mk (KeepBut.trans (kX HK.out) (KeepBut.of_below hb g none) (.inl rfl)); replace HB := Aside0.mk (below_step (hY HB.out (IsS124.ge HI0.out)) hb); replace HI0 := Aside0.mk (IsS124.below (i124 HI0.out) hb); clear hb; obtain ⟨hczx3, hczx4, hfzx3, hfzx4⟩ := cZ2 BKz2.out; have px1 : 0 ≤ (x4_1 : Int) := of_decide_eq_true (by first | (with_reducible assumption) | assumption); have qx1 : (x4_1 : Int) < ((x107000_1.length : Int) : Int) := of_decide_eq_true (by first | (with_reducible assumption) | assumption); obtain ⟨gox1, cox2, eox2, gbx1, glx1, clx1, HGx1⟩ := Kd.R_form HO_y1.out (by omega); (first | cases eox2 | (injection eox2 with ea_ en_ ec_; (first | subst ea_ | (injection ea_ with ea_; subst ea_)); subst ec_; clear en_)); have GBx1 := Aside0.mk gbx1; have GGx1 := Aside0.mk HGx1; clear gbx1 glx1 HGx1; obtain ⟨hxx1, hfx1⟩ := Kd.R_celln 0 HO_y1.out (x4_1 : Int) px1 qx1; replace px1 := eq_true px1; replace qx1 := eq_true qx1; obtain ⟨hyx1, hzx1⟩ := Kd.R_celln 0 HO_y1.out (x4_1 : Int) (of_decide_eq_true (by first | (with_reducible assumption) | assumption)) (of_decide_eq_true (by first | (with_reducible assumption) | assumption)); have HPx1 := Kd.R_putg HO_y1.out (x4_1 : Int) t113) | ((with_reducible refine gate_store (t := 3) (p := 21) rfl ?_); refine store_event (t := 3) (p := 21) (v := ?vo_wx3) (w1 := (wx2.setCell ⟨gox1, (x4_1 : Int).toNat, none⟩ (.int .i64 t113))) ?hg ?ho ?hn ?hr ?_; (case ho => rfl); (case hg => rfl); (case hn => rfl); (case hr => first | (go_simp; done) | (go_simp; rfl)); intro wx3 hw; have hg : wx2.grownBy wx3 (some gox1) := (by rw [hw]; exact HPx1.2); have hp_ : Kd.R (Kd.int .i64) 3 wx3 w.heap.size (fun _ => True) (.slice (some ⟨gox1, 0, none⟩) x107000_1.length cox1) y117 := (by rw [hw, Ny117.out]; exact HPx1.1); clear HPx1; replace BKz1 := Aside0.mk (blk_grown (g := gbz1) (o := .cells #[.slice none 0 0, .int .i64 0] 24 (0, 0)) (bX BKz1.out) hg (Kd.R_ne HO_y1.out BKz1.out (by decide))); replace BKz2 := Aside0.mk (blk_grown (g := gbz2) (o := .cells #[.slice (some ⟨gox1, 0, none⟩) x107000_1.length cox1, .int .i64 t105] 24 (0, 0)) (bX BKz2.out) hg (Kd.R_ne HO_y1.out BKz2.out (by decide))); replace HI0 := Aside0.mk (IsS124.grown (i124 HI0.out) hg (IsS124.own_ne HI0.out HO_y1.out (by decide))); replace HB := Aside0.mk ((by rw [hw]; exact below_set (HB.out) (Nat.le_trans HL.out GBx1.out) : Below w0.heap.size w0 wx3)); replace HK := Aside0.mk (KeepBut.trans (kX HK.out) (KeepBut.of_grown hg g) (Kd.R_base2 HO_y1.out)); replace HO_y1 := Aside0.mk (hp_); clear hg hw hp_))
          go_roundg k1
          case measure => have := HKy1.out; omega
          case rel => exact ⟨(wrap64 (x4_1 + 1)), (t114), (t115), (y117), (.slice (some ⟨gox1, 0, none⟩) x107000_1.length cox1), rS, H', ⟨by have := HKy1.out; omega⟩, ⟨(rX HO_y1.out)⟩, ⟨(bX BKz1.out)⟩, ⟨(bX BKz2.out)⟩, ⟨(i124 HI0.out)⟩, ⟨(kX HK.out)⟩, ⟨(hY HB.out (IsS124.ge HI0.out))⟩⟩
        · rw [if_neg c13] at H
          have c13b0 := decide_eq_false c13
          clear c13
          have H' := Aside0.mk H
          clear H
          go_wp2_with (first | (refine goesM 41 15 Try.func41 #[.agg #[.slice Aox1 x107000_1.length cox1, .int .i64 t105], .int .i64 t113] ?_; refine (spec_KeyOf.calls k1 _ _ x107000_1 t105 t113 t116 _ (cX (Kd.R_reads' HO_y1.out).2.2) ((Kd.R_reads' HO_y1.out).2.1) A12.out).mono ?_; rintro e wx2 ⟨rfl, hb⟩; refine ⟨_, rfl, ?_⟩; replace HO_y1 := Aside0.mk (Kd.R_below (rX HO_y1.out) hb); replace BKz1 := Aside0.mk (blk_below (bX BKz1.out) hb); replace BKz2 := Aside0.mk (blk_below (bX BKz2.out) hb); replace HK := Aside0.mk (KeepBut.trans (kX HK.out) (KeepBut.of_below hb g none) (.inl rfl)); replace HB := Aside0.mk (below_step (hY HB.out (IsS124.ge HI0.out)) hb); replace HI0 := Aside0.mk (IsS124.below (i124 HI0.out) hb); clear hb))
          go_roundg k1
          case measure => have := HKy1.out; omega
          case rel => exact ⟨(wrap64 (x4_1 + 1)), (t114), (t115), (x107000_1), (.slice Aox1 x107000_1.length cox1), rS, H', ⟨by have := HKy1.out; omega⟩, ⟨(rX HO_y1.out)⟩, ⟨(bX BKz1.out)⟩, ⟨(bX BKz2.out)⟩, ⟨(i124 HI0.out)⟩, ⟨(kX HK.out)⟩, ⟨(hY HB.out (IsS124.ge HI0.out))⟩⟩
      · rw [if_neg c10] at H
        have c10b0 := decide_eq_false c10
        clear c10
        obtain ⟨y107, hy107⟩ : ∃ y_ : List Int, y_ = (([0, 0, 1, 3, 5] : List Int)) := ⟨_, rfl⟩
        replace H : ((spec_l1PickInt.f s0_0 x1001_1 x1002_1 y107).bind fun bt110 => (some (x107000_1, bt110.1, bt110.2.1, bt110.2.2))) = some (r1, r2, r3, r4) := yH H hy107
        have Ny107 := Aside0.mk hy107
        clear hy107
        replace H := bE H; obtain ⟨⟨t110, t111, t112⟩, A32, H⟩ := H
        try dsimp only at H
        simp only [Option.some.injEq, Prod.mk.injEq] at H
        obtain ⟨rfl, rfl, rfl, rfl⟩ := H
        go_wp2_with (first | ((with_reducible refine gate_dst (N := 23) rfl ?_); refine Kd.R_lit (Kd.int .i64) _ 3 ?hg (N := 23) ?hd (xs := ([0, 0, 1, 3, 5] : List Int)) (inner := [.int .i64 0, .int .i64 0, .int .i64 1, .int .i64 3, .int .i64 5]) (ok := fun _ => True) (okp := fun _ => True) ?hr ?hp (fun _ hk => hk) trivial (Below.refl _ _) (Nat.le_refl _) (by simp) ?_; (case hd => rfl); (case hg => rfl); (case hr => first | (go_simp; done) | (go_simp; rfl)); (case hp => exact (Reps.one (show Kd.M (Kd.int .i64) _ _ _ 0 [.int .i64 0] from rfl) (Reps.one (show Kd.M (Kd.int .i64) _ _ _ 0 [.int .i64 0] from rfl) (Reps.one (show Kd.M (Kd.int .i64) _ _ _ 1 [.int .i64 1] from rfl) (Reps.one (show Kd.M (Kd.int .i64) _ _ _ 3 [.int .i64 3] from rfl) (Reps.one (show Kd.M (Kd.int .i64) _ _ _ 5 [.int .i64 5] from rfl) (Reps.none _ _))))))); intro vx1 wx1 hox1 hb hg_ hnew_; clear hg_ hnew_; (first | rw [← Ny107.out] at hox1 | (simp only [Int.reduceToNat] at hox1; rw [← Ny107.out] at hox1)); have HOx1 := Aside0.mk (Kd.R_lower (Kd.R_new' hox1 (Kd.R_lt (rX HO_y1.out))) (keep_size (w := w) (g := g) (row := none) (kX HK.out))); replace HO_y1 := Aside0.mk (Kd.R_elder' (rX HO_y1.out) (Kd.R_base hox1) hb); replace BKz1 := Aside0.mk (blk_below (bX BKz1.out) hb); replace BKz2 := Aside0.mk (blk_below (bX BKz2.out) hb); replace HK := Aside0.mk (KeepBut.trans (kX HK.out) (KeepBut.of_below hb g none) (.inl rfl)); replace HB := Aside0.mk (below_step (hY HB.out (IsS124.ge HI0.out)) hb); replace HI0 := Aside0.mk (IsS124.below (i124 HI0.out) hb); clear hb hox1; obtain ⟨Aox1, cox1, eox1⟩ := Kd.R_slice HOx1.out; subst eox1) | (refine goesM 125 24 Try.func125 #[.pointer (some ⟨g, 0, none⟩), .slice Aox1 y107.length cox1] ?_; refine (spec_l1PickInt.calls g s0_0 x1001_1 x1002_1 _ _ y107 t110 t111 t112 w0 _ (by repeat (first | (with_reducible first | exact HI0.out | apply IsS124.alloc | apply IsS124.drewN | apply IsS124.drew | apply IsS124.set_1 | apply IsS124.set_2 | refine IsS124.far ?_ NBz1.out _ | refine IsS124.far ?_ NBz5.out _) | exact HI0.out)) (by repeat (first | (with_reducible first | exact HB.out | apply below_alloc | apply pw_below_drewN | apply below_drew1 | refine below_set ?_ (IsS124.ge HI0.out) | refine below_set ?_ GEz1.out | refine below_set ?_ GEz2.out) | exact HB.out)) (cX (Kd.R_reads' HOx1.out).2.2) ((Kd.R_reads' HOx1.out).2.1) (by exact far_slice (IsS124.own_ne HI0.out HOx1.out (by decide))) A32.out).mono ?_; rintro e wx2 ⟨rfl, hi, hb, hk⟩; refine ⟨_, rfl, ?_⟩; replace HO_y1 := Aside0.mk (Kd.R_mono (Kd.R_keep (IsS124.apart (show IsS124 w0 _ g s0_0 x1001_1 x1002_1 from (i124 HI0.out)) (rX HO_y1.out) (by decide)) hk (fun _ h => h.2)) (fun _ h => h.1)); replace BKz1 := Aside0.mk (KeepBut.blk hk (g' := gbz1) (o := .cells #[.slice none 0 0, .int .i64 0] 24 (0, 0)) (bX BKz1.out) NBz2.out (by simp)); replace BKz2 := Aside0.mk (KeepBut.blk hk (g' := gbz2) (o := .cells #[u107000, .int .i64 t105] 24 (0, 0)) (bX BKz2.out) NBz6.out (by simp)); replace HOx1 := Aside0.mk (Kd.R_mono (Kd.R_keep (IsS124.apart (show IsS124 w0 _ g s0_0 x1001_1 x1002_1 from (i124 HI0.out)) (rX HOx1.out) (by decide)) hk (fun _ h => h.2)) (fun _ h => h.1)); replace HK := Aside0.mk (KeepBut.trans (kX HK.out) hk (.inl rfl)); replace HB := Aside0.mk (hb); replace HI0 := Aside0.mk (hi); clear hb hk hi; have hnbx1 := NBz4.out; have hncx1 := NBz3.out; have hnbx2 := NBz6.out; have hncx2 := NBz5.out; obtain ⟨hczx1, hczx2, hfzx1, hfzx2⟩ := cZ2 BKz2.out; obtain ⟨Aox2, cox2, eox2⟩ := Kd.R_slice HO_y1.out; subst eox2; have hnbx3 := NBz2.out; have hncx3 := NBz1.out; obtain ⟨hczx3, hczx4, hfzx3, hfzx4⟩ := cZ2 BKz1.out))
        refine bodyPost_ret (results_cell_row rfl _ _ gbz1 24 #[.slice Aox2 x107000_1.length cox2, .int .i64 t110] (0, 0) _ rfl (bP BKz1.out) Try.underlying24 rfl (by kernel_rfl)) rfl ?_
        exact ⟨_, rE, (rT (h := by exact Kd.R_mono (Kd.R_far (p := ⟨gbz1, 1, none⟩) (Kd.R_far (p := ⟨gbz1, 0, none⟩) (Kd.R_far (p := ⟨gbz2, 1, none⟩) (Kd.R_types (Kd.R_types HO_y1.out BKz2.out (by decide)) BKz1.out (by decide)) (fun _ hk => hk.1.2) (.int .i64 t110)) (fun _ hk => hk.2) (.slice Aox2 x107000_1.length cox2)) (fun _ hk => hk.2) (.int .i64 t110)) (fun _ hk => trivial))), (i124 HI0.out), (hY HB.out (IsS124.ge HI0.out)), (kX HK.out)⟩
end Go.Proofs.Yteamagejhbkhnaa.P
namespace Go.Proofs.Yteamagejhbkhnaa.P
open Go.Proofs.YteamagejhbkhnaaZ Go.RowKit Go.Proofs.YteamagejhbkhnaaW.PrintWords Go.Proofs.YteamagejhbkhnaaW.PrintLast Go.Proofs.YteamagejhbkhnaaW.PrintMore
attribute [local go_sem] max2_int min2_int max_two min_two max_three min_three max_four min_four   -- for this text's walks alone
set_option linter.unusedVariables false
set_option linter.unusedSimpArgs false
def spec_l13Draw.f (k : Nat) (s0_0 : List Int) (s0_1 : Int) (s0_2 : Int) : Option (List Int × Int × Int) := (spec_l3DrawRight.f k s0_0 s0_1 s0_2).bind fun bt101 => ((spec_WordsOf.f k bt101.1 bt101.2.1).bind fun t107 => ((spec_l1Below.f s0_0 bt101.2.2.1 bt101.2.2.2 6).bind fun bt110 => (if bt110.1 = 0 then ((spec_l1Below.f s0_0 bt110.2.1 bt110.2.2 (t107.length : Int)).bind fun bt113 => ((spec_l1Below.f s0_0 bt113.2.1 bt113.2.2 9).bind fun bt116 => (if 0 ≤ bt113.1 then (if bt113.1 < (t107.length : Int) then (some ((t107.set (bt113.1 : Int).toNat (wrap64 (bt116.1 - 1))), bt116.2.1, bt116.2.2)) else (none)) else (none)))) else (if bt110.1 = 1 then ((spec_l1Below.f s0_0 bt110.2.1 bt110.2.2 (t107.length : Int)).bind fun bt120 => (if 0 ≤ bt120.1 then (if bt120.1 ≤ (t107.length : Int) then (some ((t107.take (bt120.1 : Int).toNat), bt120.2.1, bt120.2.2)) else (none)) else (none))) else (some (t107, bt110.2.1, bt110.2.2))))))
set_option maxHeartbeats 8000000 in
set_option maxRecDepth 100000 in
theorem spec_l13Draw.calls (k : Nat) (g : Nat) (s0_0 : List Int) (s0_1 : Int) (s0_2 : Int) (r1 : List Int) (r2 : Int) (r3 : Int) (w0 w : World) (hI : IsS124 w0 w g s0_0 s0_1 s0_2) (hB : Below w0.heap.size w0 w) (h : spec_l13Draw.f k s0_0 s0_1 s0_2 = some (r1, r2, r3)) :
    Calls Try.prog 101 #[.pointer (some ⟨g, 0, none⟩)] w fun e w' => ∃ v0_ : Value, e = .returned (v0_) ∧ Kd.R (Kd.int .i64) 3 w' w.heap.size (fun _ => True) v0_ r1 ∧ IsS124 w0 w' g s0_0 r2 r3 ∧ Below w0.heap.size w0 w' ∧ KeepBut w w' g none := by
  have HI0 := Aside0.mk hI
  have HK := Aside0.mk (KeepBut.refl w g none)
  have HL := Aside0.mk hB.size
  clear hI
  have HW0 := Aside0.mk hB.size
  have HB := Aside0.mk hB
  clear hB
  have H := h
  unfold spec_l13Draw.f at H
  clear h
  replace H := bE H; obtain ⟨⟨t101, t104, t105, t106⟩, A2, H⟩ := H
  try dsimp only at H
  replace H := bE H; obtain ⟨t107, A3, H⟩ := H
  replace H := bE H; obtain ⟨⟨t110, t111, t112⟩, A4, H⟩ := H
  try dsimp only at H
  go_enter Try.func101, Try.ntmps101
  go_wp2_with (first | (refine goesM 124 5 Try.func124 #[.pointer (some ⟨g, 0, none⟩)] ?_; refine (spec_l3DrawRight.calls k g s0_0 s0_1 s0_2 t101 t104 t105 t106 w0 _ (by repeat (first | (with_reducible first | exact HI0.out | apply IsS124.alloc | apply IsS124.drewN | apply IsS124.drew | apply IsS124.set_1 | apply IsS124.set_2) | exact HI0.out)) (by repeat (first | (with_reducible first | exact HB.out | apply below_alloc | apply pw_below_drewN | apply below_drew1 | refine below_set ?_ (IsS124.ge HI0.out)) | exact HB.out)) A2.out).mono ?_; rintro e wz1 ⟨vz1, rfl, hoz1, hi, hb, hk⟩; refine ⟨_, rfl, ?_⟩; have HOz1 := Aside0.mk (Kd.R_lower hoz1 (keep_size (w := w) (g := g) (row := none) (kX HK.out))); replace HK := Aside0.mk (KeepBut.trans (kX HK.out) hk (.inl rfl)); replace HB := Aside0.mk (hb); replace HI0 := Aside0.mk (hi); clear hb hk hi hoz1; obtain ⟨Aoz1, coz1, eoz1⟩ := Kd.R_slice HOz1.out; subst eoz1) | (refine goesM 37 6 Try.func37 #[.agg #[.slice Aoz1 t101.length coz1, .int .i64 t104]] ?_; refine (spec_WordsOf.calls k _ _ t101 t104 t107 _ (cX (Kd.R_reads' HOz1.out).2.2) ((Kd.R_reads' HOz1.out).2.1) A3.out).mono ?_; rintro e wz2 ⟨vz2, rfl, hoz1, hb⟩; refine ⟨_, rfl, ?_⟩; have HOz2 := Aside0.mk (Kd.R_lower (Kd.R_new' hoz1 (Kd.R_lt (rX HOz1.out))) (keep_size (w := w) (g := g) (row := none) (kX HK.out))); replace HOz1 := Aside0.mk (Kd.R_elder' (rX HOz1.out) (Kd.R_base hoz1) hb); replace HK := Aside0.mk (KeepBut.trans (kX HK.out) (KeepBut.of_below hb g none) (.inl rfl)); replace HB := Aside0.mk (below_step (hY HB.out (IsS124.ge HI0.out)) hb); replace HI0 := Aside0.mk (IsS124.below (i124 HI0.out) hb); clear hb hoz1; refine Stop.out ?_))
  refine ⟨?_⟩
  by_cases c5 : t110 = 0
  · rw [if_pos c5] at H
    obtain ⟨c5b0, c5b1⟩ := eqT c5
    clear c5
    replace H := bE H; obtain ⟨⟨t113, t114, t115⟩, A6, H⟩ := H
    try dsimp only at H
    replace H := bE H; obtain ⟨⟨t116, t117, t118⟩, A7, H⟩ := H
    try dsimp only at H
    replace H := ifP H; obtain ⟨c8, H⟩ := H
    have c8b0 := decide_eq_true c8
    clear c8
    replace H := ifP H; obtain ⟨c9, H⟩ := H
    have c9b0 := decide_eq_true c9
    clear c9
    obtain ⟨y119, hy119⟩ : ∃ y_ : List Int, y_ = (t107.set (t113 : Int).toNat (wrap64 (t116 - 1))) := ⟨_, rfl⟩
    replace H : (some (y119, t117, t118)) = some (r1, r2, r3) := yH H hy119
    have Ny119 := Aside0.mk hy119
    clear hy119
    simp only [Option.some.injEq, Prod.mk.injEq] at H
    obtain ⟨rfl, rfl, rfl⟩ := H
    go_wp2_with (first | (refine goesM 88 8 Try.func88 #[.pointer (some ⟨g, 0, none⟩), .int .i64 6] ?_; refine (spec_l1Below.calls g s0_0 t105 t106 6 t110 t111 t112 w0 _ (by repeat (first | (with_reducible first | exact HI0.out | apply IsS124.alloc | apply IsS124.drewN | apply IsS124.drew | apply IsS124.set_1 | apply IsS124.set_2) | exact HI0.out)) (by repeat (first | (with_reducible first | exact HB.out | apply below_alloc | apply pw_below_drewN | apply below_drew1 | refine below_set ?_ (IsS124.ge HI0.out)) | exact HB.out)) A4.out).mono ?_; rintro e wz3 ⟨rfl, hi, hb, hk⟩; refine ⟨_, rfl, ?_⟩; replace HOz1 := Aside0.mk (Kd.R_mono (Kd.R_keep (IsS124.apart (show IsS124 w0 _ g s0_0 t105 t106 from (i124 HI0.out)) (rX HOz1.out) (by decide)) hk (fun _ h => h.2)) (fun _ h => h.1)); replace HOz2 := Aside0.mk (Kd.R_mono (Kd.R_keep (IsS124.apart (show IsS124 w0 _ g s0_0 t105 t106 from (i124 HI0.out)) (rX HOz2.out) (by decide)) hk (fun _ h => h.2)) (fun _ h => h.1)); replace HK := Aside0.mk (KeepBut.trans (kX HK.out) hk (.inl rfl)); replace HB := Aside0.mk (hb); replace HI0 := Aside0.mk (hi); clear hb hk hi; obtain ⟨Aoz2, coz2, eoz2⟩ := Kd.R_slice HOz2.out; subst eoz2) | (refine goesM 88 15 Try.func88 #[.pointer (some ⟨g, 0, none⟩), .int .i64 (t107.length : Int)] ?_; refine (spec_l1Below.calls g s0_0 t111 t112 (t107.length : Int) t113 t114 t115 w0 _ (by repeat (first | (with_reducible first | exact HI0.out | apply IsS124.alloc | apply IsS124.drewN | apply IsS124.drew | apply IsS124.set_1 | apply IsS124.set_2) | exact HI0.out)) (by repeat (first | (with_reducible first | exact HB.out | apply below_alloc | apply pw_below_drewN | apply below_drew1 | refine below_set ?_ (IsS124.ge HI0.out)) | exact HB.out)) A6.out).mono ?_; rintro e wz4 ⟨rfl, hi, hb, hk⟩; refine ⟨_, rfl, ?_⟩; replace HOz1 := Aside0.mk (Kd.R_mono (Kd.R_keep (IsS124.apart (show IsS124 w0 _ g s0_0 t111 t112 from (i124 HI0.out)) (rX HOz1.out) (by decide)) hk (fun _ h => h.2)) (fun _ h => h.1)); replace HOz2 := Aside0.mk (Kd.R_mono (Kd.R_keep (IsS124.apart (show IsS124 w0 _ g s0_0 t111 t112 from (i124 HI0.out)) (rX HOz2.out) (by decide)) hk (fun _ h => h.2)) (fun _ h => h.1)); replace HK := Aside0.mk (KeepBut.trans (kX HK.out) hk (.inl rfl)); replace HB := Aside0.mk (hb); replace HI0 := Aside0.mk (hi); clear hb hk hi) | (refine goesM 88 17 Try.func88 #[.pointer (some ⟨g, 0, none⟩), .int .i64 9] ?_; refine (spec_l1Below.calls g s0_0 t114 t115 9 t116 t117 t118 w0 _ (by repeat (first | (with_reducible first | exact HI0.out | apply IsS124.alloc | apply IsS124.drewN | apply IsS124.drew | apply IsS124.set_1 | apply IsS124.set_2) | exact HI0.out)) (by repeat (first | (with_reducible first | exact HB.out | apply below_alloc | apply pw_below_drewN | apply below_drew1 | refine below_set ?_ (IsS124.ge HI0.out)) | exact HB.out)) A7.out).mono ?_; rintro e wz5 ⟨rfl, hi, hb, hk⟩; refine ⟨_, rfl, ?_⟩; replace HOz1 := Aside0.mk (Kd.R_mono (Kd.R_keep (IsS124.apart (show IsS124 w0 _ g s0_0 t114 t115 from (i124 HI0.out)) (rX HOz1.out) (by decide)) hk (fun _ h => h.2)) (fun _ h => h.1)); replace HOz2 := Aside0.mk (Kd.R_mono (Kd.R_keep (IsS124.apart (show IsS124 w0 _ g s0_0 t114 t115 from (i124 HI0.out)) (rX HOz2.out) (by decide)) hk (fun _ h => h.2)) (fun _ h => h.1)); replace HK := Aside0.mk (KeepBut.trans (kX HK.out) hk (.inl rfl)); replace HB := Aside0.mk (hb); replace HI0 := Aside0.mk (hi); clear hb hk hi; have pz1 : 0 ≤ (t113 : Int) := of_decide_eq_true (by first | (with_reducible assumption) | assumption); have qz1 : (t113 : Int) < ((t107.length : Int) : Int) := of_decide_eq_true (by first | (with_reducible assumption) | assumption); obtain ⟨goz1, coz3, eoz3, gbz1, glz1, clz1, HGz1⟩ := Kd.R_form HOz2.out (by omega); (first | cases eoz3 | (injection eoz3 with ea_ en_ ec_; (first | subst ea_ | (injection ea_ with ea_; subst ea_)); subst ec_; clear en_)); have GBz1 := Aside0.mk gbz1; have GGz1 := Aside0.mk HGz1; clear gbz1 glz1 HGz1; obtain ⟨hxz1, hfz1⟩ := Kd.R_celln 0 HOz2.out (t113 : Int) pz1 qz1; replace pz1 := eq_true pz1; replace qz1 := eq_true qz1; have n_ := Aside0.mk (Kd.R_mono (ok' := (fun k_ => some k_ ≠ (.slice Aoz1 t101.length coz1 : Value).ownBlock)) HOz2.out (fun k_ hk => hk.2)); clear HOz2; have HOz2 := n_; clear n_; obtain ⟨hyz1, hzz1⟩ := Kd.R_celln 0 HOz2.out (t113 : Int) (of_decide_eq_true (by first | (with_reducible assumption) | assumption)) (of_decide_eq_true (by first | (with_reducible assumption) | assumption)); have HPz1 := Kd.R_putg HOz2.out (t113 : Int) (wrap64 (t116 - 1))) | ((with_reducible refine gate_store (t := 3) (p := 19) rfl ?_); refine store_event (t := 3) (p := 19) (v := ?vo_wz6) (w1 := (wz5.setCell ⟨goz1, (t113 : Int).toNat, none⟩ (.int .i64 (wrap64 (t116 - 1))))) ?hg ?ho ?hn ?hr ?_; (case ho => rfl); (case hg => rfl); (case hn => rfl); (case hr => first | (go_simp; done) | (go_simp; rfl)); intro wz6 hw; have hg : wz5.grownBy wz6 (some goz1) := (by rw [hw]; exact HPz1.2); have hp_ : Kd.R (Kd.int .i64) 3 wz6 w.heap.size (fun k_ => some k_ ≠ (.slice Aoz1 t101.length coz1 : Value).ownBlock) (.slice (some ⟨goz1, 0, none⟩) t107.length coz2) y119 := (by rw [hw, Ny119.out]; exact HPz1.1); clear HPz1; replace HI0 := Aside0.mk (IsS124.grown (i124 HI0.out) hg (IsS124.own_ne HI0.out HOz2.out (by decide))); replace HOz1 := Aside0.mk (Kd.R_after (v := (.slice (some ⟨goz1, 0, none⟩) t107.length coz2)) (v1 := (.slice (some ⟨goz1, 0, none⟩) t107.length coz2)) (ok := (fun _ => True)) (rX HOz1.out) hg (.inl rfl)); replace HB := Aside0.mk ((by rw [hw]; exact below_set (HB.out) (Nat.le_trans HL.out GBz1.out) : Below w0.heap.size w0 wz6)); replace HK := Aside0.mk (KeepBut.trans (kX HK.out) (KeepBut.of_grown hg g) (Kd.R_base2 HOz2.out)); replace HOz2 := Aside0.mk (hp_); clear hg hw hp_))
    go_ret
    exact ⟨_, rE, (rT (h := by exact Kd.R_mono HOz2.out (fun _ hk => trivial))), (i124 HI0.out), (hY HB.out (IsS124.ge HI0.out)), (kX HK.out)⟩
  · rw [if_neg c5] at H
    obtain ⟨c5b0, c5b1⟩ := eqF c5
    by_cases c20 : t110 = 1
    · rw [if_pos c20] at H
      obtain ⟨c20b0, c20b1⟩ := eqT c20
      clear c20
      replace H := bE H; obtain ⟨⟨t120, t121, t122⟩, A21, H⟩ := H
      try dsimp only at H
      replace H := ifP H; obtain ⟨c22, H⟩ := H
      have c22b0 := eq_true c22
      have c22b1 := decide_eq_true c22
      clear c22
      replace H := ifP H; obtain ⟨c23, H⟩ := H
      have c23b0 := eq_true c23
      have c23b1 := decide_eq_true c23
      clear c23
      obtain ⟨y123, hy123⟩ : ∃ y_ : List Int, y_ = (t107.take (t120 : Int).toNat) := ⟨_, rfl⟩
      replace H : (some (y123, t121, t122)) = some (r1, r2, r3) := yH H hy123
      have Ny123 := Aside0.mk hy123
      clear hy123
      simp only [Option.some.injEq, Prod.mk.injEq] at H
      obtain ⟨rfl, rfl, rfl⟩ := H
      go_wp2_with (first | (refine goesM 88 8 Try.func88 #[.pointer (some ⟨g, 0, none⟩), .int .i64 6] ?_; refine (spec_l1Below.calls g s0_0 t105 t106 6 t110 t111 t112 w0 _ (by repeat (first | (with_reducible first | exact HI0.out | apply IsS124.alloc | apply IsS124.drewN | apply IsS124.drew | apply IsS124.set_1 | apply IsS124.set_2) | exact HI0.out)) (by repeat (first | (with_reducible first | exact HB.out | apply below_alloc | apply pw_below_drewN | apply below_drew1 | refine below_set ?_ (IsS124.ge HI0.out)) | exact HB.out)) A4.out).mono ?_; rintro e wz3 ⟨rfl, hi, hb, hk⟩; refine ⟨_, rfl, ?_⟩; replace HOz1 := Aside0.mk (Kd.R_mono (Kd.R_keep (IsS124.apart (show IsS124 w0 _ g s0_0 t105 t106 from (i124 HI0.out)) (rX HOz1.out) (by decide)) hk (fun _ h => h.2)) (fun _ h => h.1)); replace HOz2 := Aside0.mk (Kd.R_mono (Kd.R_keep (IsS124.apart (show IsS124 w0 _ g s0_0 t105 t106 from (i124 HI0.out)) (rX HOz2.out) (by decide)) hk (fun _ h => h.2)) (fun _ h => h.1)); replace HK := Aside0.mk (KeepBut.trans (kX HK.out) hk (.inl rfl)); replace HB := Aside0.mk (hb); replace HI0 := Aside0.mk (hi); clear hb hk hi; obtain ⟨Aoz2, coz2, eoz2⟩ := Kd.R_slice HOz2.out; subst eoz2) | (refine goesM 88 26 Try.func88 #[.pointer (some ⟨g, 0, none⟩), .int .i64 (t107.length : Int)] ?_; refine (spec_l1Below.calls g s0_0 t111 t112 (t107.length : Int) t120 t121 t122 w0 _ (by repeat (first | (with_reducible first | exact HI0.out | apply IsS124.alloc | apply IsS124.drewN | apply IsS124.drew | apply IsS124.set_1 | apply IsS124.set_2) | exact HI0.out)) (by repeat (first | (with_reducible first | exact HB.out | apply below_alloc | apply pw_below_drewN | apply below_drew1 | refine below_set ?_ (IsS124.ge HI0.out)) | exact HB.out)) A21.out).mono ?_; rintro e wz4 ⟨rfl, hi, hb, hk⟩; refine ⟨_, rfl, ?_⟩; replace HOz1 := Aside0.mk (Kd.R_mono (Kd.R_keep (IsS124.apart (show IsS124 w0 _ g s0_0 t111 t112 from (i124 HI0.out)) (rX HOz1.out) (by decide)) hk (fun _ h => h.2)) (fun _ h => h.1)); replace HOz2 := Aside0.mk (Kd.R_mono (Kd.R_keep (IsS124.apart (show IsS124 w0 _ g s0_0 t111 t112 from (i124 HI0.out)) (rX HOz2.out) (by decide)) hk (fun _ h => h.2)) (fun _ h => h.1)); replace HK := Aside0.mk (KeepBut.trans (kX HK.out) hk (.inl rfl)); replace HB := Aside0.mk (hb); replace HI0 := Aside0.mk (hi); clear hb hk hi; have qz1 : (t120 : Int) ≤ ((t107.length : Int) : Int) := of_decide_eq_true (by first | (with_reducible assumption) | assumption); obtain ⟨iz1, hiz1, _, hszz1, _⟩ := info_parts info3; have hcutz1 := cut_to (P := Try.prog) 22 3 .i64 Try.underlying22 hiz1 Aoz2 t107.length coz2 t120 (of_decide_eq_true (by first | (with_reducible assumption) | assumption)) qz1 (Kd.R_reads' HOz2.out).2.1; have hrz1 := Kd.R_take (m := (t120 : Int).toNat) HOz2.out (by omega); have hyz1 : y123.length = (t120 : Int).toNat := (by rw [Ny123.out, List.length_take]; omega); rw [← Ny123.out] at hrz1; rw [← hyz1] at hrz1 hcutz1; clear hyz1 hiz1 hszz1 HOz2; have HOz3 := Aside0.mk hrz1; clear hrz1; replace qz1 := eq_true qz1))
      go_ret
      exact ⟨_, rE, (rT (h := by exact Kd.R_mono HOz3.out (fun _ hk => trivial))), (i124 HI0.out), (hY HB.out (IsS124.ge HI0.out)), (kX HK.out)⟩
    · rw [if_neg c20] at H
      obtain ⟨c20b0, c20b1⟩ := eqF c20
      simp only [Option.some.injEq, Prod.mk.injEq] at H
      obtain ⟨rfl, rfl, rfl⟩ := H
      go_wp2_with (first | (refine goesM 88 8 Try.func88 #[.pointer (some ⟨g, 0, none⟩), .int .i64 6] ?_; refine (spec_l1Below.calls g s0_0 t105 t106 6 t110 t111 t112 w0 _ (by repeat (first | (with_reducible first | exact HI0.out | apply IsS124.alloc | apply IsS124.drewN | apply IsS124.drew | apply IsS124.set_1 | apply IsS124.set_2) | exact HI0.out)) (by repeat (first | (with_reducible first | exact HB.out | apply below_alloc | apply pw_below_drewN | apply below_drew1 | refine below_set ?_ (IsS124.ge HI0.out)) | exact HB.out)) A4.out).mono ?_; rintro e wz3 ⟨rfl, hi, hb, hk⟩; refine ⟨_, rfl, ?_⟩; replace HOz1 := Aside0.mk (Kd.R_mono (Kd.R_keep (IsS124.apart (show IsS124 w0 _ g s0_0 t105 t106 from (i124 HI0.out)) (rX HOz1.out) (by decide)) hk (fun _ h => h.2)) (fun _ h => h.1)); replace HOz2 := Aside0.mk (Kd.R_mono (Kd.R_keep (IsS124.apart (show IsS124 w0 _ g s0_0 t105 t106 from (i124 HI0.out)) (rX HOz2.out) (by decide)) hk (fun _ h => h.2)) (fun _ h => h.1)); replace HK := Aside0.mk (KeepBut.trans (kX HK.out) hk (.inl rfl)); replace HB := Aside0.mk (hb); replace HI0 := Aside0.mk (hi); clear hb hk hi))
      go_ret
      exact ⟨_, rE, (rT (h := by exact Kd.R_mono HOz2.out (fun _ hk => trivial))), (i124 HI0.out), (hY HB.out (IsS124.ge HI0.out)), (kX HK.out)⟩
end Go.Proofs.Yteamagejhbkhnaa.P
namespace Go.Proofs.Yteamagejhbkhnaa.P
open Go.Proofs.YteamagejhbkhnaaZ Go.RowKit Go.Proofs.YteamagejhbkhnaaW.PrintWords Go.Proofs.YteamagejhbkhnaaW.PrintLast Go.Proofs.YteamagejhbkhnaaW.PrintMore
attribute [local go_sem] max2_int min2_int max_two min_two max_three min_three max_four min_four   -- for this text's walks alone
set_option linter.unusedVariables false
set_option linter.unusedSimpArgs false
def spec_l1New.l0 : Nat → List Int → Int → Int → Option (List Int × Int × Int)
  | 0, _, _, _ => none
  | k + 1, x0, x3, x4 => if x4 < (x0.length : Int) then (if x4 < 4000 then (if 0 ≤ x4 then (spec_l1New.l0 k x0 (Go.bits .and .i64 (wrap64 ((wrap64 ((wrap64 (x3 * 131)) + (wrap64 (rd x0 x4)))) + 7)) 1073741823) (wrap64 (x4 + 1))) else (none)) else (some (x0, 0, x3))) else (some (x0, 0, x3))
def spec_l1New.f (k : Nat) (l0 : List Int) : Option (List Int × Int × Int) := spec_l1New.l0 k l0 (wrap64 (27323 + (l0.length : Int))) 0
set_option maxHeartbeats 8000000 in
set_option maxRecDepth 100000 in
theorem spec_l1New.calls (k : Nat) (A0 : Option Addr) (c0 : Nat) (l0 : List Int) (r1 : List Int) (r2 : Int) (r3 : Int) (w0 w : World) (hB : Below w0.heap.size w0 w) (hr0 : Kd.C (Kd.int .u8) w0 A0 l0.length l0) (hc0 : l0.length ≤ c0) (h : spec_l1New.f k l0 = some (r1, r2, r3)) :
    Calls Try.prog 86 #[.slice A0 l0.length c0] w fun e w' => ∃ g_ : Nat, e = .returned (.pointer (some ⟨g_, 0, none⟩)) ∧ IsS124 w0 w' g_ r1 r2 r3 ∧ Below w0.heap.size w0 w' ∧ Below w.heap.size w w' := by
  have hu124 := Try.underlying124
  have HR0 := Aside0.mk hr0
  have HC0 := Aside0.mk hc0
  clear hr0 hc0
  have HBW := Aside0.mk (Below.refl w.heap.size w)
  have HW0 := Aside0.mk hB.size
  have HB := Aside0.mk hB
  clear hB
  have H := h
  unfold spec_l1New.f at H
  clear h
  have H' := Aside0.mk H
  clear H
  go_enter Try.func86, Try.ntmps86
  go_wp2
  go_loopg [3, 4] k (fun kq v3 v4 w' => ∃ (x3_1 : Int) (x4_1 : Int), v3 = .int .i64 x3_1 ∧ v4 = .int .i64 x4_1 ∧ Aside0 (spec_l1New.l0 kq l0 x3_1 x4_1 = some (r1, r2, r3)) ∧ Aside0 (kq ≤ k) ∧ Aside0 (Below w0.heap.size w0 w') ∧ Aside0 (Below w.heap.size w w'))
  case atStart => exact ⟨(wrap64 (27323 + (l0.length : Int))), (0), rS, rS, H', ⟨Nat.le_refl _⟩, ⟨(hX HB.out)⟩, ⟨(hX HBW.out)⟩⟩
  case round =>
    clear H'
    obtain ⟨x3_1, x4_1, rfl, rfl, HA, HKy1, HB, HBW⟩ := hrel
    cases gk with
    | zero => exact absurd HA.out (by simp [spec_l1New.l0])
    | succ k1 =>
      have H := HA.out
      clear HA
      simp only [spec_l1New.l0] at H
      by_cases c2 : x4_1 < (l0.length : Int)
      · rw [if_pos c2] at H
        have c2b0 := decide_eq_true c2
        clear c2
        by_cases c3 : x4_1 < 4000
        · rw [if_pos c3] at H
          have c3b0 := decide_eq_true c3
          clear c3
          replace H := ifP H; obtain ⟨c4, H⟩ := H
          have c4b0 := decide_eq_true c4
          clear c4
          have H' := Aside0.mk H
          clear H
          have px1 : 0 ≤ (x4_1 : Int) := of_decide_eq_true (by first | (with_reducible assumption) | assumption)
          have qx1 : x4_1 < (l0.length : Int) := of_decide_eq_true (by first | (with_reducible assumption) | assumption)
          obtain ⟨adx1, ex1, hxx1⟩ := Kd.at_int HR0.out x4_1 px1 qx1
          cases ex1
          replace hxx1 := pw_cell_below HB.out hxx1
          replace px1 := eq_true px1
          replace qx1 := eq_true qx1
          go_wp2
          go_roundg k1
          case measure => have := HKy1.out; omega
          case rel => exact ⟨(Go.bits .and .i64 (wrap64 ((wrap64 ((wrap64 (x3_1 * 131)) + (wrap64 (rd l0 x4_1)))) + 7)) 1073741823), (wrap64 (x4_1 + 1)), rS, rS, H', ⟨by have := HKy1.out; omega⟩, ⟨(hX HB.out)⟩, ⟨(hX HBW.out)⟩⟩
        · rw [if_neg c3] at H
          have c3b0 := decide_eq_false c3
          clear c3
          simp only [Option.some.injEq, Prod.mk.injEq] at H
          obtain ⟨rfl, rfl, rfl⟩ := H
          go_wp2_with (first | (refine boxE 31 #[.slice A0 l0.length c0, .int .i64 0, .int .i64 x3_1] 124 ?_; intro gbx1 hg wx1 hbox hb; have BKx1 := Aside0.mk (hbox); have GWx1 := Aside0.mk (gX' hg (hX HBW.out)); have GEx1 := Aside0.mk ((Nat.le_trans HW0.out (by rw [hg]; exact (below_size (hX HBW.out)) : w.heap.size ≤ gbx1) : w0.heap.size ≤ gbx1)); replace HBW := Aside0.mk (below_step HBW.out hb); replace HB := Aside0.mk (below_step (hX HB.out) hb); clear hb hbox hg))
          go_ret
          exact ⟨_, rfl, (show IsS124 w0 _ gbx1 l0 0 x3_1 from ⟨_, _, (bX BKx1.out), GEx1.out, HR0.out⟩), (hX HB.out), (hX HBW.out)⟩
      · rw [if_neg c2] at H
        have c2b0 := decide_eq_false c2
        clear c2
        simp only [Option.some.injEq, Prod.mk.injEq] at H
        obtain ⟨rfl, rfl, rfl⟩ := H
        go_wp2_with (first | (refine boxE 31 #[.slice A0 l0.length c0, .int .i64 0, .int .i64 x3_1] 124 ?_; intro gbx1 hg wx1 hbox hb; have BKx1 := Aside0.mk (hbox); have GWx1 := Aside0.mk (gX' hg (hX HBW.out)); have GEx1 := Aside0.mk ((Nat.le_trans HW0.out (by rw [hg]; exact (below_size (hX HBW.out)) : w.heap.size ≤ gbx1) : w0.heap.size ≤ gbx1)); replace HBW := Aside0.mk (below_step HBW.out hb); replace HB := Aside0.mk (below_step (hX HB.out) hb); clear hb hbox hg))
        go_ret
        exact ⟨_, rfl, (show IsS124 w0 _ gbx1 l0 0 x3_1 from ⟨_, _, (bX BKx1.out), GEx1.out, HR0.out⟩), (hX HB.out), (hX HBW.out)⟩
end Go.Proofs.Yteamagejhbkhnaa.P
namespace Go.Proofs.Yteamagejhbkhnaa.P
open Go.Proofs.YteamagejhbkhnaaZ Go.RowKit Go.Proofs.YteamagejhbkhnaaW.PrintWords Go.Proofs.YteamagejhbkhnaaW.PrintLast Go.Proofs.YteamagejhbkhnaaW.PrintMore
attribute [local go_sem] max2_int min2_int max_two min_two max_three min_three max_four min_four   -- for this text's walks alone
set_option linter.unusedVariables false
set_option linter.unusedSimpArgs false
def spec_DrawStray.f (k : Nat) (l0 : List Int) : Option (List Int) := (spec_l1New.f k l0).bind fun bt101 => ((spec_l13Draw.f k bt101.1 bt101.2.1 bt101.2.2).bind fun bt105 => (some bt105.1))
set_option maxHeartbeats 8000000 in
set_option maxRecDepth 100000 in
theorem spec_DrawStray.calls (k : Nat) (A0 : Option Addr) (c0 : Nat) (l0 : List Int) (r : List Int) (w : World) (hr0 : Kd.C (Kd.int .u8) w A0 l0.length l0) (hc0 : l0.length ≤ c0) (h : spec_DrawStray.f k l0 = some r) :
    Calls Try.prog 47 #[.slice A0 l0.length c0] w fun e w' => ∃ v0_ : Value, e = .returned (v0_) ∧ Kd.R (Kd.int .i64) 3 w' w.heap.size (fun _ => True) v0_ r ∧ Below w.heap.size w w' := by
  have HR0 := Aside0.mk hr0
  have HC0 := Aside0.mk hc0
  clear hr0 hc0
  have HB := Aside0.mk (Below.refl w.heap.size w)
  have H := h
  unfold spec_DrawStray.f at H
  clear h
  replace H := bE H; obtain ⟨⟨t101, t102, t103⟩, A2, H⟩ := H
  try dsimp only at H
  replace H := bE H; obtain ⟨⟨t105, t108, t109⟩, A3, H⟩ := H
  try dsimp only at H
  obtain rfl := Option.some.inj H
  go_enter Try.func47, Try.ntmps47
  go_wp2_with (first | (refine goesM 86 4 Try.func86 #[.slice A0 l0.length c0] ?_; refine (spec_l1New.calls k _ _ l0 t101 t102 t103 w _ (by repeat (first | (with_reducible first | exact HB.out | apply below_alloc | apply pw_below_drewN | apply below_drew1) | exact HB.out)) HR0.out HC0.out A2.out).mono ?_; rintro e wz1 ⟨gz1, rfl, hi, hb, hbz1⟩; refine ⟨_, rfl, ?_⟩; have HIz1 := Aside0.mk (hi); replace HB := Aside0.mk (hb); clear hb hbz1 hi) | (refine goesM 101 5 Try.func101 #[.pointer (some ⟨gz1, 0, none⟩)] ?_; refine (spec_l13Draw.calls k gz1 t101 t102 t103 t105 t108 t109 w _ (by repeat (first | (with_reducible first | exact HIz1.out | apply IsS124.alloc | apply IsS124.drewN | apply IsS124.drew | apply IsS124.set_1 | apply IsS124.set_2) | exact HIz1.out)) (by repeat (first | (with_reducible first | exact HB.out | apply below_alloc | apply pw_below_drewN | apply below_drew1 | refine below_set ?_ (IsS124.ge HIz1.out)) | exact HB.out)) A3.out).mono ?_; rintro e wz2 ⟨vz1, rfl, hoz1, hi, hb, hk⟩; refine ⟨_, rfl, ?_⟩; have HOz1 := Aside0.mk (Kd.R_lower hoz1 (below_size (hY HB.out (IsS124.ge HIz1.out)))); replace HB := Aside0.mk (hb); replace HIz1 := Aside0.mk (hi); clear hb hk hi hoz1))
  go_ret
  exact ⟨_, rE, (rX HOz1.out), (hY HB.out (IsS124.ge HIz1.out))⟩
end Go.Proofs.Yteamagejhbkhnaa.P
namespace Go.Proofs.Yteamagejhbkhnaa.P
open Go.Proofs.YteamagejhbkhnaaZ Go.RowKit Go.Proofs.YteamagejhbkhnaaW.PrintWords Go.Proofs.YteamagejhbkhnaaW.PrintLast Go.Proofs.YteamagejhbkhnaaW.PrintMore
attribute [local go_sem] max2_int min2_int max_two min_two max_three min_three max_four min_four   -- for this text's walks alone
set_option linter.unusedVariables false
set_option linter.unusedSimpArgs false
def spec_DrawFind.f (k : Nat) (l0 : List Int) : Option (List Int × Int) := (spec_l1New.f k l0).bind fun bt101 => ((spec_l13Draw.f k bt101.1 bt101.2.1 bt101.2.2).bind fun bt105 => ((spec_l1Below.f bt101.1 bt105.2.1 bt105.2.2 9).bind fun bt110 => (some (bt105.1, wrap64 (bt110.1 - 1)))))
set_option maxHeartbeats 8000000 in
set_option maxRecDepth 100000 in
theorem spec_DrawFind.calls (k : Nat) (A0 : Option Addr) (c0 : Nat) (l0 : List Int) (r1 : List Int) (r2 : Int) (w : World) (hr0 : Kd.C (Kd.int .u8) w A0 l0.length l0) (hc0 : l0.length ≤ c0) (h : spec_DrawFind.f k l0 = some (r1, r2)) :
    Calls Try.prog 48 #[.slice A0 l0.length c0] w fun e w' => ∃ v0_ : Value, e = .returned (.tuple #[v0_, .int .i64 r2]) ∧ Kd.R (Kd.int .i64) 3 w' w.heap.size (fun _ => True) v0_ r1 ∧ Below w.heap.size w w' := by
  have HR0 := Aside0.mk hr0
  have HC0 := Aside0.mk hc0
  clear hr0 hc0
  have HB := Aside0.mk (Below.refl w.heap.size w)
  have H := h
  unfold spec_DrawFind.f at H
  clear h
  replace H := bE H; obtain ⟨⟨t101, t102, t103⟩, A2, H⟩ := H
  try dsimp only at H
  replace H := bE H; obtain ⟨⟨t105, t108, t109⟩, A3, H⟩ := H
  try dsimp only at H
  replace H := bE H; obtain ⟨⟨t110, t111, t112⟩, A4, H⟩ := H
  try dsimp only at H
  simp only [Option.some.injEq, Prod.mk.injEq] at H
  obtain ⟨rfl, rfl⟩ := H
  go_enter Try.func48, Try.ntmps48
  go_wp2_with (first | (refine goesM 86 7 Try.func86 #[.slice A0 l0.length c0] ?_; refine (spec_l1New.calls k _ _ l0 t101 t102 t103 w _ (by repeat (first | (with_reducible first | exact HB.out | apply below_alloc | apply pw_below_drewN | apply below_drew1) | exact HB.out)) HR0.out HC0.out A2.out).mono ?_; rintro e wz1 ⟨gz1, rfl, hi, hb, hbz1⟩; refine ⟨_, rfl, ?_⟩; have HIz1 := Aside0.mk (hi); replace HB := Aside0.mk (hb); clear hb hbz1 hi) | (refine goesM 101 9 Try.func101 #[.pointer (some ⟨gz1, 0, none⟩)] ?_; refine (spec_l13Draw.calls k gz1 t101 t102 t103 t105 t108 t109 w _ (by repeat (first | (with_reducible first | exact HIz1.out | apply IsS124.alloc | apply IsS124.drewN | apply IsS124.drew | apply IsS124.set_1 | apply IsS124.set_2) | exact HIz1.out)) (by repeat (first | (with_reducible first | exact HB.out | apply below_alloc | apply pw_below_drewN | apply below_drew1 | refine below_set ?_ (IsS124.ge HIz1.out)) | exact HB.out)) A3.out).mono ?_; rintro e wz2 ⟨vz1, rfl, hoz1, hi, hb, hk⟩; refine ⟨_, rfl, ?_⟩; have HOz1 := Aside0.mk (Kd.R_lower hoz1 (below_size (hY HB.out (IsS124.ge HIz1.out)))); replace HB := Aside0.mk (hb); replace HIz1 := Aside0.mk (hi); clear hb hk hi hoz1) | (refine goesM 88 12 Try.func88 #[.pointer (some ⟨gz1, 0, none⟩), .int .i64 9] ?_; refine (spec_l1Below.calls gz1 t101 t108 t109 9 t110 t111 t112 w _ (by repeat (first | (with_reducible first | exact HIz1.out | apply IsS124.alloc | apply IsS124.drewN | apply IsS124.drew | apply IsS124.set_1 | apply IsS124.set_2) | exact HIz1.out)) (by repeat (first | (with_reducible first | exact HB.out | apply below_alloc | apply pw_below_drewN | apply below_drew1 | refine below_set ?_ (IsS124.ge HIz1.out)) | exact HB.out)) A4.out).mono ?_; rintro e wz3 ⟨rfl, hi, hb, hk⟩; refine ⟨_, rfl, ?_⟩; replace HOz1 := Aside0.mk (Kd.R_mono (Kd.R_keep (IsS124.apart (show IsS124 w _ gz1 t101 t108 t109 from (i124 HIz1.out)) (rX HOz1.out) (by decide)) hk (fun _ h => h.2)) (fun _ h => h.1)); replace HB := Aside0.mk (hb); replace HIz1 := Aside0.mk (hi); clear hb hk hi))
  go_ret2
  exact ⟨_, rE, (rX HOz1.out), (hY HB.out (IsS124.ge HIz1.out))⟩
end Go.Proofs.Yteamagejhbkhnaa.P
namespace Go.Proofs.Yteamagejhbkhnaa.P
open Go.Proofs.YteamagejhbkhnaaZ Go.RowKit Go.Proofs.YteamagejhbkhnaaW.PrintWords Go.Proofs.YteamagejhbkhnaaW.PrintLast Go.Proofs.YteamagejhbkhnaaW.PrintMore
attribute [local go_sem] max2_int min2_int max_two min_two max_three min_three max_four min_four   -- for this text's walks alone
set_option linter.unusedVariables false
set_option linter.unusedSimpArgs false
def spec_DrawFindVia.f (k : Nat) (l0 : List Int) : Option (List Int × Int) := (spec_DrawFind.f k l0).bind fun bt101 => (some (bt101.1, bt101.2))
set_option maxHeartbeats 8000000 in
set_option maxRecDepth 100000 in
theorem spec_DrawFindVia.calls (k : Nat) (A0 : Option Addr) (c0 : Nat) (l0 : List Int) (r1 : List Int) (r2 : Int) (w : World) (hr0 : Kd.C (Kd.int .u8) w A0 l0.length l0) (hc0 : l0.length ≤ c0) (h : spec_DrawFindVia.f k l0 = some (r1, r2)) :
    Calls Try.prog 49 #[.slice A0 l0.length c0] w fun e w' => ∃ v0_ : Value, e = .returned (.tuple #[v0_, .int .i64 r2]) ∧ Kd.R (Kd.int .i64) 3 w' w.heap.size (fun _ => True) v0_ r1 ∧ Below w.heap.size w w' := by
  have HR0 := Aside0.mk hr0
  have HC0 := Aside0.mk hc0
  clear hr0 hc0
  have HB := Aside0.mk (Below.refl w.heap.size w)
  have H := h
  unfold spec_DrawFindVia.f at H
  clear h
  replace H := bE H; obtain ⟨⟨t101, t102⟩, A2, H⟩ := H
  try dsimp only at H
  simp only [Option.some.injEq, Prod.mk.injEq] at H
  obtain ⟨rfl, rfl⟩ := H
  go_enter Try.func49, Try.ntmps49
  go_wp2_with (first | (refine goesM 48 8 Try.func48 #[.slice A0 l0.length c0] ?_; refine (spec_DrawFind.calls k _ _ l0 t101 t102 _ (cX HR0.out) HC0.out A2.out).mono ?_; rintro e wz1 ⟨vz1, rfl, hoz1, hb⟩; refine ⟨_, rfl, ?_⟩; have HOz1 := Aside0.mk (Kd.R_lower hoz1 (below_size (hX HB.out))); replace HB := Aside0.mk (below_step (hX HB.out) hb); clear hb hoz1))
  go_ret2
  exact ⟨_, rE, (rX HOz1.out), (hX HB.out)⟩
end Go.Proofs.Yteamagejhbkhnaa.P
namespace Go.Proofs.Yteamagejhbkhnaa.P
open Go.Proofs.YteamagejhbkhnaaZ Go.RowKit Go.Proofs.YteamagejhbkhnaaW.PrintWords Go.Proofs.YteamagejhbkhnaaW.PrintLast Go.Proofs.YteamagejhbkhnaaW.PrintMore
attribute [local go_sem] max2_int min2_int max_two min_two max_three min_three max_four min_four   -- for this text's walks alone
set_option linter.unusedVariables false
set_option linter.unusedSimpArgs false
def spec_DrawRowsIn.f (k : Nat) (l0 : List Int) : Option (List Int) := (spec_l1New.f k l0).bind fun bt101 => ((spec_l13Draw.f k bt101.1 bt101.2.1 bt101.2.2).bind fun bt105 => (some bt105.1))
set_option maxHeartbeats 8000000 in
set_option maxRecDepth 100000 in
theorem spec_DrawRowsIn.calls (k : Nat) (A0 : Option Addr) (c0 : Nat) (l0 : List Int) (r : List Int) (w : World) (hr0 : Kd.C (Kd.int .u8) w A0 l0.length l0) (hc0 : l0.length ≤ c0) (h : spec_DrawRowsIn.f k l0 = some r) :
    Calls Try.prog 50 #[.slice A0 l0.length c0] w fun e w' => ∃ v0_ : Value, e = .returned (v0_) ∧ Kd.R (Kd.int .i64) 3 w' w.heap.size (fun _ => True) v0_ r ∧ Below w.heap.size w w' := by
  have HR0 := Aside0.mk hr0
  have HC0 := Aside0.mk hc0
  clear hr0 hc0
  have HB := Aside0.mk (Below.refl w.heap.size w)
  have H := h
  unfold spec_DrawRowsIn.f at H
  clear h
  replace H := bE H; obtain ⟨⟨t101, t102, t103⟩, A2, H⟩ := H
  try dsimp only at H
  replace H := bE H; obtain ⟨⟨t105, t108, t109⟩, A3, H⟩ := H
  try dsimp only at H
  obtain rfl := Option.some.inj H
  go_enter Try.func50, Try.ntmps50
  go_wp2_with (first | (refine goesM 86 4 Try.func86 #[.slice A0 l0.length c0] ?_; refine (spec_l1New.calls k _ _ l0 t101 t102 t103 w _ (by repeat (first | (with_reducible first | exact HB.out | apply below_alloc | apply pw_below_drewN | apply below_drew1) | exact HB.out)) HR0.out HC0.out A2.out).mono ?_; rintro e wz1 ⟨gz1, rfl, hi, hb, hbz1⟩; refine ⟨_, rfl, ?_⟩; have HIz1 := Aside0.mk (hi); replace HB := Aside0.mk (hb); clear hb hbz1 hi) | (refine goesM 101 5 Try.func101 #[.pointer (some ⟨gz1, 0, none⟩)] ?_; refine (spec_l13Draw.calls k gz1 t101 t102 t103 t105 t108 t109 w _ (by repeat (first | (with_reducible first | exact HIz1.out | apply IsS124.alloc | apply IsS124.drewN | apply IsS124.drew | apply IsS124.set_1 | apply IsS124.set_2) | exact HIz1.out)) (by repeat (first | (with_reducible first | exact HB.out | apply below_alloc | apply pw_below_drewN | apply below_drew1 | refine below_set ?_ (IsS124.ge HIz1.out)) | exact HB.out)) A3.out).mono ?_; rintro e wz2 ⟨vz1, rfl, hoz1, hi, hb, hk⟩; refine ⟨_, rfl, ?_⟩; have HOz1 := Aside0.mk (Kd.R_lower hoz1 (below_size (hY HB.out (IsS124.ge HIz1.out)))); replace HB := Aside0.mk (hb); replace HIz1 := Aside0.mk (hi); clear hb hk hi hoz1))
  go_ret
  exact ⟨_, rE, (rX HOz1.out), (hY HB.out (IsS124.ge HIz1.out))⟩
end Go.Proofs.Yteamagejhbkhnaa.P
namespace Go.Proofs.Yteamagejhbkhnaa.P
open Go.Proofs.YteamagejhbkhnaaZ Go.RowKit Go.Proofs.YteamagejhbkhnaaW.PrintWords Go.Proofs.YteamagejhbkhnaaW.PrintLast Go.Proofs.YteamagejhbkhnaaW.PrintMore
attribute [local go_sem] max2_int min2_int max_two min_two max_three min_three max_four min_four   -- for this text's walks alone
set_option linter.unusedVariables false
set_option linter.unusedSimpArgs false
def spec_DrawWhole.f (k : Nat) (l0 : List Int) : Option (List Int) := (spec_l1New.f k l0).bind fun bt101 => ((spec_l13Draw.f k bt101.1 bt101.2.1 bt101.2.2).bind fun bt105 => (some bt105.1))
set_option maxHeartbeats 8000000 in
set_option maxRecDepth 100000 in
theorem spec_DrawWhole.calls (k : Nat) (A0 : Option Addr) (c0 : Nat) (l0 : List Int) (r : List Int) (w : World) (hr0 : Kd.C (Kd.int .u8) w A0 l0.length l0) (hc0 : l0.length ≤ c0) (h : spec_DrawWhole.f k l0 = some r) :
    Calls Try.prog 51 #[.slice A0 l0.length c0] w fun e w' => ∃ v0_ : Value, e = .returned (v0_) ∧ Kd.R (Kd.int .i64) 3 w' w.heap.size (fun _ => True) v0_ r ∧ Below w.heap.size w w' := by
  have HR0 := Aside0.mk hr0
  have HC0 := Aside0.mk hc0
  clear hr0 hc0
  have HB := Aside0.mk (Below.refl w.heap.size w)
  have H := h
  unfold spec_DrawWhole.f at H
  clear h
  replace H := bE H; obtain ⟨⟨t101, t102, t103⟩, A2, H⟩ := H
  try dsimp only at H
  replace H := bE H; obtain ⟨⟨t105, t108, t109⟩, A3, H⟩ := H
  try dsimp only at H
  obtain rfl := Option.some.inj H
  go_enter Try.func51, Try.ntmps51
  go_wp2_with (first | (refine goesM 86 4 Try.func86 #[.slice A0 l0.length c0] ?_; refine (spec_l1New.calls k _ _ l0 t101 t102 t103 w _ (by repeat (first | (with_reducible first | exact HB.out | apply below_alloc | apply pw_below_drewN | apply below_drew1) | exact HB.out)) HR0.out HC0.out A2.out).mono ?_; rintro e wz1 ⟨gz1, rfl, hi, hb, hbz1⟩; refine ⟨_, rfl, ?_⟩; have HIz1 := Aside0.mk (hi); replace HB := Aside0.mk (hb); clear hb hbz1 hi) | (refine goesM 101 5 Try.func101 #[.pointer (some ⟨gz1, 0, none⟩)] ?_; refine (spec_l13Draw.calls k gz1 t101 t102 t103 t105 t108 t109 w _ (by repeat (first | (with_reducible first | exact HIz1.out | apply IsS124.alloc | apply IsS124.drewN | apply IsS124.drew | apply IsS124.set_1 | apply IsS124.set_2) | exact HIz1.out)) (by repeat (first | (with_reducible first | exact HB.out | apply below_alloc | apply pw_below_drewN | apply below_drew1 | refine below_set ?_ (IsS124.ge HIz1.out)) | exact HB.out)) A3.out).mono ?_; rintro e wz2 ⟨vz1, rfl, hoz1, hi, hb, hk⟩; refine ⟨_, rfl, ?_⟩; have HOz1 := Aside0.mk (Kd.R_lower hoz1 (below_size (hY HB.out (IsS124.ge HIz1.out)))); replace HB := Aside0.mk (hb); replace HIz1 := Aside0.mk (hi); clear hb hk hi hoz1))
  go_ret
  exact ⟨_, rE, (rX HOz1.out), (hY HB.out (IsS124.ge HIz1.out))⟩
end Go.Proofs.Yteamagejhbkhnaa.P
namespace Go.Proofs.Yteamagejhbkhnaa.P
open Go.Proofs.YteamagejhbkhnaaZ Go.RowKit Go.Proofs.YteamagejhbkhnaaW.PrintWords Go.Proofs.YteamagejhbkhnaaW.PrintLast Go.Proofs.YteamagejhbkhnaaW.PrintMore
attribute [local go_sem] max2_int min2_int max_two min_two max_three min_three max_four min_four   -- for this text's walks alone
set_option linter.unusedVariables false
set_option linter.unusedSimpArgs false
def laws_at.f (l0 : List Int) (a1 : Int) : Option (Int) := if a1 < (l0.length : Int) then (if 0 ≤ a1 then (some (wrap64 (rd l0 a1))) else (none)) else (some (Int.tmod (wrap64 ((wrap64 (a1 * 7)) + (l0.length : Int))) 256))
set_option maxHeartbeats 8000000 in
set_option maxRecDepth 100000 in
theorem laws_at.calls (A0 : Option Addr) (c0 : Nat) (l0 : List Int) (a1 : Int) (r : Int) (w : World) (hr0 : Kd.C (Kd.int .u8) w A0 l0.length l0) (hc0 : l0.length ≤ c0) (h : laws_at.f l0 a1 = some r) :
    Calls Try.prog 53 #[.slice A0 l0.length c0, .int .i64 a1] w fun e w' => e = .returned (.int .i64 r) ∧ Drawn0 w w' := by
  have HR0 := Aside0.mk hr0
  have HC0 := Aside0.mk hc0
  clear hr0 hc0
  have H := h
  unfold laws_at.f at H
  clear h
  by_cases c3 : a1 < (l0.length : Int)
  · rw [if_pos c3] at H
    have c3b0 := decide_eq_true c3
    clear c3
    replace H := ifP H; obtain ⟨c4, H⟩ := H
    have c4b0 := decide_eq_true c4
    clear c4
    obtain rfl := Option.some.inj H
    have pz1 : 0 ≤ (a1 : Int) := of_decide_eq_true (by first | (with_reducible assumption) | assumption)
    have qz1 : a1 < (l0.length : Int) := of_decide_eq_true (by first | (with_reducible assumption) | assumption)
    obtain ⟨adz1, ez1, hxz1⟩ := Kd.at_int HR0.out a1 pz1 qz1
    cases ez1
    replace pz1 := eq_true pz1
    replace qz1 := eq_true qz1
    go_enter Try.func53, Try.ntmps53
    go_wp2
    go_ret
    exact ⟨by first | rfl | (simp; done) | (simp [*]; done), dX⟩
  · rw [if_neg c3] at H
    have c3b0 := decide_eq_false c3
    clear c3
    obtain rfl := Option.some.inj H
    go_enter Try.func53, Try.ntmps53
    go_wp2
    go_ret
    exact ⟨by first | rfl | (simp; done) | (simp [*]; done), dX⟩
end Go.Proofs.Yteamagejhbkhnaa.P
