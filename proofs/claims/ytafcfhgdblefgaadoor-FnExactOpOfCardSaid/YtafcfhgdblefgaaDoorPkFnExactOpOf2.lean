/- The law FnExactOpOf holds, as_ its card says it: for every input the call returns true, and each argument reads afterwards as_ it read before. Conditions: the two listed variables of unicode/utf8 start as_ the library's text lays them (the card ties them); the call reads neither. Written by a program of this session. -/
import Derived.OpenShut
import Derived.DataElems
import Derived.DataReads
import Derived.Lib.SplitLaws
import Derived.Lib.IndexBytes
import Derived.Lib.IndexLaws
import Derived.Lib.Join
import Derived.Test.YtafcfhgdblefgaaDoorCards
import Derived.Test.YtafcfhgdblefgaaDoorTie
import Derived.WalkKit
import Derived.ProofKit
import Derived.ShutString
import Derived.ChangeOld
import Derived.Below
import Derived.SizedLaws
import Derived.Carry
import Derived.Deep.DeepHandedRow
import Derived.Lib.LaidTab
import Derived.Test.YtafcfhgdblefgaaDoorPkFnExactOpOf1
set_option linter.unusedSimpArgs false
set_option linter.unusedVariables false
namespace Go.Proofs.YtafcfhgdblefgaaDoor.P
open Go.Proofs.YtafcfhgdblefgaaDoorZ Go.RowKit Go.Proofs.YtafcfhgdblefgaaDoorW.PrintWords Go.Proofs.YtafcfhgdblefgaaDoorW.PrintLast Go.Proofs.YtafcfhgdblefgaaDoorW.PrintMore
attribute [local go_sem] max2_int min2_int max_two min_two max_three min_three max_four min_four   -- for this text's walks alone
def impl_Split.f (a0 : ByteArray) (a1 : Int) : Option (List ByteArray) := (strings_Split.f a0 (strOfNums (([a1] : List Int)))).bind fun t104 => (some t104)
set_option maxHeartbeats 8000000 in
set_option maxRecDepth 100000 in
theorem impl_Split.calls (a0 : ByteArray) (a1 : Int) (r : List ByteArray) (w : World) (h : impl_Split.f a0 a1 = some r) :
    Calls Tryd.prog 32 #[.string a0, .int .u8 a1] w fun e w' => ∃ v0_ : Value, e = .returned (v0_) ∧ Kd.R Kd.string 9 w' w.heap.size (fun _ => True) v0_ r ∧ Below w.heap.size w w' := by
  have HB := aM (Below.refl w.heap.size w)
  have H := h
  unfold impl_Split.f at H
  clear h
  obtain ⟨y101, hy101⟩ : ∃ y_ : List Int, y_ = (([a1] : List Int)) := ⟨_, rfl⟩
  replace H : ((strings_Split.f a0 (strOfNums y101)).bind fun t104 => (some t104)) = some r := yH H hy101
  have Ny101 := aM hy101
  clear hy101
  replace H := bE H; obtain ⟨t104, A3, H⟩ := H
  obtain rfl := sI H
  go_enter Tryd.func32, Tryd.ntmps32
  go_wp2_with (first | ((with_reducible refine gate_dst (N := 7) rfl ?_); refine Kd.R_lit (Kd.int .u8) _ 5 ?hg (N := 7) ?hd (xs := ([a1] : List Int)) (inner := [.int .u8 a1]) (ok := fun _ => True) (okp := fun _ => True) ?hr ?hp (fun _ hk => hk) trivial (Below.refl _ _) (Nat.le_refl _) (by simp) ?_; (case hd => rfl); (case hg => rfl); (case hr => first | (go_simp; done) | (go_simp; rfl)); (case hp => exact (Reps.one (show Kd.M (Kd.int .u8) _ _ _ a1 [.int .u8 a1] from rfl) (Reps.none _ _))); intro vz1 wz1 hoz1 hb hg_ hnew_; clear hg_ hnew_; (first | rw [← Ny101.out] at hoz1 | (simp only [Int.reduceToNat] at hoz1; rw [← Ny101.out] at hoz1)); have HOz1 := aM (Kd.R_lower hoz1 (below_size (hX HB.out))); replace HB := aS HB hb; clear hb hoz1; have hcvz1 := own_string (P := Tryd.prog) Tryd.underlying33 Tryd.underlying5 Tryd.underlying9 (Kd.own_of_R HOz1.out)) | (refine goesM 58 9 Tryd.func58 #[.string a0, .string (strOfNums y101)] ?_; refine (strings_Split.calls _ _ _ _ A3.out).mono ?_; rintro e wz2 ⟨vz2, rfl, hoz2, hb⟩; refine ⟨_, rfl, ?_⟩; have HOz2 := aM (Kd.R_lower hoz2 (below_size (hX HB.out))); replace HOz1 := aQ HOz1 hb; replace HB := aS HB hb; clear hb hoz2))
  go_ret
  exact ⟨_, rE, (rX HOz2.out), (hX HB.out)⟩
mutual
def impl_Number.j0 : Nat → ByteArray → Bool → Option (Int × Bool)
  | 0, _, _ => none
  | k + 1, x0, x12 => if x12 = true then (some (0, false)) else (impl_Number.l0 k x0 0 (x0.size : Int) 0)
def impl_Number.l0 : Nat → ByteArray → Int → Int → Int → Option (Int × Bool)
  | 0, _, _, _, _ => none
  | k + 1, x0, x4, x14, x15 => if x15 < x14 then (if 0 ≤ x15 then (if x15 < (x0.size : Int) then (if (bt x0 x15) < 48 then (some (0, false)) else (if (bt x0 x15) > 57 then (some (0, false)) else (impl_Number.l0 k x0 (wrap64 ((wrap64 (10 * x4)) + (((bt x0 x15) - 48) % 256))) x14 (wrap64 (x15 + 1))))) else (none)) else (none)) else ((impl_Digits.f k x4).bind fun t101 => (if t101.toList = x0.toList then (some (x4, true)) else (some (0, false))))
end
def impl_Number.f (k : Nat) (a0 : ByteArray) : Option (Int × Bool) := if a0.toList = ([] : List UInt8) then (impl_Number.j0 k a0 true) else (impl_Number.j0 k a0 (decide ((a0.size : Int) > 6)))
theorem impl_Number.mono_l : ∀ k, (∀ y0 y1, LeO (impl_Number.j0 k y0 y1) (impl_Number.j0 (k + 1) y0 y1)) ∧ (∀ y0 y1 y2 y3, LeO (impl_Number.l0 k y0 y1 y2 y3) (impl_Number.l0 (k + 1) y0 y1 y2 y3))
  | 0 => ⟨fun _ _ r h => by simp [impl_Number.j0] at h, fun _ _ _ _ r h => by simp [impl_Number.l0] at h⟩
  | k + 1 => by
    obtain ⟨ih0, ih1⟩ := impl_Number.mono_l k
    refine ⟨?_, ?_⟩
    · intro y0 y1
      unfold impl_Number.j0
      repeat' first
      | (with_reducible exact ih0 _ _)
      | (with_reducible exact ih1 _ _ _ _)
      | (with_reducible exact impl_Digits.mono _ _)
      | (with_reducible exact LeO.refl _)
      | (with_reducible exact LeO.none _)
      | (with_reducible refine LeO.ite ?_ ?_)
      | (with_reducible refine LeO.bind ?_ (fun _ => ?_))
      | exact ih0 _ _
      | exact ih1 _ _ _ _
      | exact impl_Digits.mono _ _
      | exact LeO.none _
      | refine LeO.ite ?_ ?_
      | refine LeO.bind ?_ (fun _ => ?_)
    · intro y0 y1 y2 y3
      unfold impl_Number.l0
      repeat' first
      | (with_reducible exact ih0 _ _)
      | (with_reducible exact ih1 _ _ _ _)
      | (with_reducible exact impl_Digits.mono _ _)
      | (with_reducible exact LeO.refl _)
      | (with_reducible exact LeO.none _)
      | (with_reducible refine LeO.ite ?_ ?_)
      | (with_reducible refine LeO.bind ?_ (fun _ => ?_))
      | exact ih0 _ _
      | exact ih1 _ _ _ _
      | exact impl_Digits.mono _ _
      | exact LeO.none _
      | refine LeO.ite ?_ ?_
      | refine LeO.bind ?_ (fun _ => ?_)
theorem impl_Number.mono : ∀ a0 k, LeO (impl_Number.f k a0) (impl_Number.f (k + 1) a0) := by
  intro a0 k
  obtain ⟨ih0, ih1⟩ := impl_Number.mono_l k
  unfold impl_Number.f
  repeat' first
      | (with_reducible exact ih0 _ _)
      | (with_reducible exact ih1 _ _ _ _)
      | (with_reducible exact impl_Digits.mono _ _)
      | (with_reducible exact LeO.refl _)
      | (with_reducible exact LeO.none _)
      | (with_reducible refine LeO.ite ?_ ?_)
      | (with_reducible refine LeO.bind ?_ (fun _ => ?_))
      | exact ih0 _ _
      | exact ih1 _ _ _ _
      | exact impl_Digits.mono _ _
      | exact LeO.none _
      | refine LeO.ite ?_ ?_
      | refine LeO.bind ?_ (fun _ => ?_)
set_option maxHeartbeats 8000000 in
set_option maxRecDepth 100000 in
theorem impl_Number.calls (k : Nat) (a0 : ByteArray) (r1 : Int) (r2 : Bool) (w : World) (h : impl_Number.f k a0 = some (r1, r2)) :
    Calls Tryd.prog 34 #[.string a0] w fun e w' => e = .returned (.tuple #[.int .i64 r1, .bool r2]) ∧ Drawn0 w w' := by
  have H := h
  unfold impl_Number.f at H
  clear h
  have HC2 := aM H
  clear H
  go_enter Tryd.func34, Tryd.ntmps34
  go_upto_region 1 with (fail)
  go_cut [12] (fun vz1 wc => ∃ (kq : Nat) (x12_1 : Bool), vz1 = .bool x12_1 ∧ Aside0 (impl_Number.j0 kq a0 x12_1 = some (r1, r2)) ∧ Aside0 (kq ≤ k) ∧ Drawn0 w wc)
  case first =>
    have H := HC2.out
    clear HC2
    by_cases c3 : a0.toList = ([] : List UInt8)
    · rw [if_pos c3] at H
      obtain ⟨c3b0, c3b1⟩ := eqT c3
      clear c3
      (first | rw [c3b0] | (simp only [i64_w, i32_w]; rw [c3b0]) | skip)
      have H' := aM H
      clear H
      go_wp2
      go_meet
      case rel => exact ⟨_, (true), rS, H', ⟨by first | omega | exact Nat.le_refl _⟩, dX⟩
    rw [if_neg c3] at H
    obtain ⟨c3b0, c3b1⟩ := eqF c3
    (first | rw [c3b0] | (simp only [i64_w, i32_w]; rw [c3b0]) | skip)
    have H' := aM H
    clear H
    go_wp2
    go_meet
    case rel => exact ⟨_, (decide ((a0.size : Int) > 6)), rS, H', ⟨by first | omega | exact Nat.le_refl _⟩, dX⟩
  case rest =>
    clear HC2
    try clear p2
    obtain ⟨kq, x12_1, rfl, HA, HJy1, ⟨mcy1, rfl⟩⟩ := hcut
    cases kq with
    | zero => exact absurd HA.out (by simp [impl_Number.j0])
    | succ kj1 =>
      have H := HA.out
      clear HA
      simp only [impl_Number.j0] at H
      by_cases c4 : x12_1 = true
      · subst c4
        rw [if_pos rfl] at H
        simp only [Option.some.injEq, Prod.mk.injEq] at H
        obtain ⟨rfl, rfl⟩ := H
        go_wp2
        go_ret2
        exact ⟨by first | rfl | (simp; done) | (simp [*]; done), dX⟩
      replace c4 := Bool.eq_false_iff.mpr c4
      subst c4
      rw [if_neg nft] at H
      have H' := aM H
      clear H
      go_wp2
      go_loopg [4, 15] kj1 (fun kq v4 v15 w' => ∃ (x4_2 : Int) (x15_2 : Int), v4 = .int .i64 x4_2 ∧ v15 = .int .i64 x15_2 ∧ Aside0 (impl_Number.l0 kq a0 x4_2 (a0.size : Int) x15_2 = some (r1, r2)) ∧ Aside0 (kq ≤ kj1) ∧ Drawn0 w w')
      case atStart => exact ⟨(0), (0), rS, rS, H', ⟨Nat.le_refl _⟩, dX⟩
      case round =>
        clear H'
        try clear p2
        try clear c4
        obtain ⟨x4_2, x15_2, rfl, rfl, HA, HKw1, ⟨mw1, rfl⟩⟩ := hrel
        cases gk with
        | zero => exact absurd HA.out (by simp [impl_Number.l0])
        | succ k2 =>
          have H := HA.out
          clear HA
          simp only [impl_Number.l0] at H
          by_cases c5 : x15_2 < (a0.size : Int)
          case neg =>
            rw [if_neg c5] at H
            have c5b0 := decide_eq_false c5
            clear c5
            replace H := bE H; obtain ⟨t101, A13, H⟩ := H
            go_wp2_with (first | (refine goesM 37 38 Tryd.func37 #[.int .i64 x4_2] ?_; refine (impl_Digits.calls _ _ _ _ A13.out).mono ?_; rintro e w' ⟨rfl, ⟨nd, rfl⟩⟩; refine ⟨_, rfl, ?_⟩; refine Stop.out ?_))
            refine ⟨?_⟩
            by_cases c14 : t101.toList = a0.toList
            case neg =>
              rw [if_neg c14] at H
              obtain ⟨c14b0, c14b1⟩ := eqF c14
              simp only [Option.some.injEq, Prod.mk.injEq] at H
              obtain ⟨rfl, rfl⟩ := H
              go_wp2
              go_ret2
              exact ⟨by first | rfl | (simp; done) | (simp [*]; done), dX⟩
            rw [if_pos c14] at H
            obtain ⟨c14b0, c14b1⟩ := eqT c14
            clear c14
            simp only [Option.some.injEq, Prod.mk.injEq] at H
            obtain ⟨rfl, rfl⟩ := H
            go_wp2
            go_ret2
            exact ⟨by first | rfl | (simp; done) | (simp [*]; done), dX⟩
          rw [if_pos c5] at H
          have c5b0 := decide_eq_true c5
          clear c5
          replace H := ifP H; obtain ⟨c6, H⟩ := H
          have c6b0 := decide_eq_true c6
          clear c6
          replace H := ifP H; obtain ⟨c7, H⟩ := H
          have c7b0 := decide_eq_true c7
          clear c7
          by_cases c9 : (bt a0 x15_2) < 48
          · rw [if_pos c9] at H
            have c9b0 := decide_eq_true c9
            clear c9
            simp only [Option.some.injEq, Prod.mk.injEq] at H
            obtain ⟨rfl, rfl⟩ := H
            have pv1 : 0 ≤ (x15_2 : Int) := odA
            have qv1 : x15_2 < (a0.size : Int) := odA
            have hxv1 := bt_at a0 x15_2
            replace pv1 := eq_true pv1
            replace qv1 := eq_true qv1
            go_wp2
            go_ret2
            exact ⟨by first | rfl | (simp; done) | (simp [*]; done), dX⟩
          rw [if_neg c9] at H
          have c9b0 := decide_eq_false c9
          clear c9
          by_cases c11 : (bt a0 x15_2) > 57
          · rw [if_pos c11] at H
            have c11b0 := decide_eq_true c11
            clear c11
            simp only [Option.some.injEq, Prod.mk.injEq] at H
            obtain ⟨rfl, rfl⟩ := H
            have pv1 : 0 ≤ (x15_2 : Int) := odA
            have qv1 : x15_2 < (a0.size : Int) := odA
            have hxv1 := bt_at a0 x15_2
            replace pv1 := eq_true pv1
            replace qv1 := eq_true qv1
            have pv2 : 0 ≤ (x15_2 : Int) := odA
            have qv2 : x15_2 < (a0.size : Int) := odA
            have hxv2 := bt_at a0 x15_2
            replace pv2 := eq_true pv2
            replace qv2 := eq_true qv2
            go_wp2
            go_ret2
            exact ⟨by first | rfl | (simp; done) | (simp [*]; done), dX⟩
          rw [if_neg c11] at H
          have c11b0 := decide_eq_false c11
          clear c11
          have H' := aM H
          clear H
          have pv1 : 0 ≤ (x15_2 : Int) := odA
          have qv1 : x15_2 < (a0.size : Int) := odA
          have hxv1 := bt_at a0 x15_2
          replace pv1 := eq_true pv1
          replace qv1 := eq_true qv1
          have pv2 : 0 ≤ (x15_2 : Int) := odA
          have qv2 : x15_2 < (a0.size : Int) := odA
          have hxv2 := bt_at a0 x15_2
          replace pv2 := eq_true pv2
          replace qv2 := eq_true qv2
          have pv3 : 0 ≤ (x15_2 : Int) := odA
          have qv3 : x15_2 < (a0.size : Int) := odA
          have hxv3 := bt_at a0 x15_2
          replace pv3 := eq_true pv3
          replace qv3 := eq_true qv3
          go_wp2
          go_roundg k2
          case measure => have := HJy1.out; have := HKw1.out; omega
          case rel => exact ⟨(wrap64 ((wrap64 (10 * x4_2)) + (((bt a0 x15_2) - 48) % 256))), (wrap64 (x15_2 + 1)), rS, rS, H', ⟨by have := HJy1.out; have := HKw1.out; omega⟩, dX⟩
mutual
def impl_OpOf.l0 : Nat → ByteArray → List ByteArray → Int → Option (Int × Int × Int × Bool)
  | 0, _, _, _ => none
  | k + 1, x0, x4, x5 => if x5 ≤ 10 then ((impl_opWord.f x5).bind fun bt105 => (if 0 < (x4.length : Int) then (if bt105.1.toList = (rdOf ByteArray.empty x4 0).toList then (if bt105.2.1 = true then (impl_OpOf.j1 k x0 x4 bt105.2.2 1 (decide (1 < (x4.length : Int))) x5 0 0) else (impl_OpOf.j1 k x0 x4 bt105.2.2 1 false x5 0 0)) else (impl_OpOf.l0 k x0 x4 (wrap64 (x5 + 1)))) else (none))) else (some (0, 0, 0, false))
def impl_OpOf.j1 : Nat → ByteArray → List ByteArray → Bool → Int → Bool → Int → Int → Int → Option (Int × Int × Int × Bool)
  | 0, _, _, _, _, _, _, _, _ => none
  | k + 1, x0, x4, x8, x10, x36, x110000, x110001, x110002 => if x36 = true then (if 0 ≤ x10 then (if x10 < (x4.length : Int) then ((impl_Number.f k (rdOf ByteArray.empty x4 x10)).bind fun bt111 => (impl_OpOf.j2 k x0 x4 x8 (wrap64 (x10 + 1)) x110000 bt111.1 x110002)) else (none)) else (none)) else (impl_OpOf.j2 k x0 x4 x8 x10 x110000 x110001 x110002)
def impl_OpOf.j2 : Nat → ByteArray → List ByteArray → Bool → Int → Int → Int → Int → Option (Int × Int × Int × Bool)
  | 0, _, _, _, _, _, _, _ => none
  | k + 1, x0, x4, x8, x10, x110000, x110001, x110002 => if x8 = true then (impl_OpOf.j3 k x0 x4 x10 (decide (x10 < (x4.length : Int))) x110000 x110001 x110002) else (impl_OpOf.j3 k x0 x4 x10 false x110000 x110001 x110002)
def impl_OpOf.j3 : Nat → ByteArray → List ByteArray → Int → Bool → Int → Int → Int → Option (Int × Int × Int × Bool)
  | 0, _, _, _, _, _, _, _ => none
  | k + 1, x0, x4, x10, x54, x110000, x110001, x110002 => if x54 = true then (if 0 ≤ x10 then (if x10 < (x4.length : Int) then ((impl_Number.f k (rdOf ByteArray.empty x4 x10)).bind fun bt114 => (impl_OpOf.j4 k x0 x110000 x110001 bt114.1)) else (none)) else (none)) else (impl_OpOf.j4 k x0 x110000 x110001 x110002)
def impl_OpOf.j4 : Nat → ByteArray → Int → Int → Int → Option (Int × Int × Int × Bool)
  | 0, _, _, _, _ => none
  | k + 1, x0, x110000, x110001, x110002 => (impl_OpOk.f k x110000 x110001 x110002).bind fun t116 => (if t116 = true then ((impl_OpText.f k x110000 x110001 x110002).bind fun t117 => (if t117.toList = x0.toList then (some (x110000, x110001, x110002, true)) else (some (0, 0, 0, false)))) else (some (0, 0, 0, false)))
end
def impl_OpOf.f (k : Nat) (a0 : ByteArray) : Option (Int × Int × Int × Bool) := (impl_Split.f a0 32).bind fun t102 => (impl_OpOf.l0 k a0 t102 1)
theorem impl_OpOf.mono_l : ∀ k, (∀ y0 y1 y2, LeO (impl_OpOf.l0 k y0 y1 y2) (impl_OpOf.l0 (k + 1) y0 y1 y2)) ∧ (∀ y0 y1 y2 y3 y4 y5 y6 y7, LeO (impl_OpOf.j1 k y0 y1 y2 y3 y4 y5 y6 y7) (impl_OpOf.j1 (k + 1) y0 y1 y2 y3 y4 y5 y6 y7)) ∧ (∀ y0 y1 y2 y3 y4 y5 y6, LeO (impl_OpOf.j2 k y0 y1 y2 y3 y4 y5 y6) (impl_OpOf.j2 (k + 1) y0 y1 y2 y3 y4 y5 y6)) ∧ (∀ y0 y1 y2 y3 y4 y5 y6, LeO (impl_OpOf.j3 k y0 y1 y2 y3 y4 y5 y6) (impl_OpOf.j3 (k + 1) y0 y1 y2 y3 y4 y5 y6)) ∧ (∀ y0 y1 y2 y3, LeO (impl_OpOf.j4 k y0 y1 y2 y3) (impl_OpOf.j4 (k + 1) y0 y1 y2 y3))
  | 0 => ⟨fun _ _ _ r h => by simp [impl_OpOf.l0] at h, fun _ _ _ _ _ _ _ _ r h => by simp [impl_OpOf.j1] at h, fun _ _ _ _ _ _ _ r h => by simp [impl_OpOf.j2] at h, fun _ _ _ _ _ _ _ r h => by simp [impl_OpOf.j3] at h, fun _ _ _ _ r h => by simp [impl_OpOf.j4] at h⟩
  | k + 1 => by
    obtain ⟨ih0, ih1, ih2, ih3, ih4⟩ := impl_OpOf.mono_l k
    refine ⟨?_, ?_, ?_, ?_, ?_⟩
    · intro y0 y1 y2
      unfold impl_OpOf.l0
      repeat' first
      | (with_reducible exact ih0 _ _ _)
      | (with_reducible exact ih1 _ _ _ _ _ _ _ _)
      | (with_reducible exact ih2 _ _ _ _ _ _ _)
      | (with_reducible exact ih3 _ _ _ _ _ _ _)
      | (with_reducible exact ih4 _ _ _ _)
      | (with_reducible exact impl_Number.mono _ _)
      | (with_reducible exact impl_OpOk.mono _ _ _ _)
      | (with_reducible exact impl_OpText.mono _ _ _ _)
      | (with_reducible exact LeO.refl _)
      | (with_reducible exact LeO.none _)
      | (with_reducible refine LeO.ite ?_ ?_)
      | (with_reducible refine LeO.bind ?_ (fun _ => ?_))
      | exact ih0 _ _ _
      | exact ih1 _ _ _ _ _ _ _ _
      | exact ih2 _ _ _ _ _ _ _
      | exact ih3 _ _ _ _ _ _ _
      | exact ih4 _ _ _ _
      | exact impl_Number.mono _ _
      | exact impl_OpOk.mono _ _ _ _
      | exact impl_OpText.mono _ _ _ _
      | exact LeO.none _
      | refine LeO.ite ?_ ?_
      | refine LeO.bind ?_ (fun _ => ?_)
    · intro y0 y1 y2 y3 y4 y5 y6 y7
      unfold impl_OpOf.j1
      repeat' first
      | (with_reducible exact ih0 _ _ _)
      | (with_reducible exact ih1 _ _ _ _ _ _ _ _)
      | (with_reducible exact ih2 _ _ _ _ _ _ _)
      | (with_reducible exact ih3 _ _ _ _ _ _ _)
      | (with_reducible exact ih4 _ _ _ _)
      | (with_reducible exact impl_Number.mono _ _)
      | (with_reducible exact impl_OpOk.mono _ _ _ _)
      | (with_reducible exact impl_OpText.mono _ _ _ _)
      | (with_reducible exact LeO.refl _)
      | (with_reducible exact LeO.none _)
      | (with_reducible refine LeO.ite ?_ ?_)
      | (with_reducible refine LeO.bind ?_ (fun _ => ?_))
      | exact ih0 _ _ _
      | exact ih1 _ _ _ _ _ _ _ _
      | exact ih2 _ _ _ _ _ _ _
      | exact ih3 _ _ _ _ _ _ _
      | exact ih4 _ _ _ _
      | exact impl_Number.mono _ _
      | exact impl_OpOk.mono _ _ _ _
      | exact impl_OpText.mono _ _ _ _
      | exact LeO.none _
      | refine LeO.ite ?_ ?_
      | refine LeO.bind ?_ (fun _ => ?_)
    · intro y0 y1 y2 y3 y4 y5 y6
      unfold impl_OpOf.j2
      repeat' first
      | (with_reducible exact ih0 _ _ _)
      | (with_reducible exact ih1 _ _ _ _ _ _ _ _)
      | (with_reducible exact ih2 _ _ _ _ _ _ _)
      | (with_reducible exact ih3 _ _ _ _ _ _ _)
      | (with_reducible exact ih4 _ _ _ _)
      | (with_reducible exact impl_Number.mono _ _)
      | (with_reducible exact impl_OpOk.mono _ _ _ _)
      | (with_reducible exact impl_OpText.mono _ _ _ _)
      | (with_reducible exact LeO.refl _)
      | (with_reducible exact LeO.none _)
      | (with_reducible refine LeO.ite ?_ ?_)
      | (with_reducible refine LeO.bind ?_ (fun _ => ?_))
      | exact ih0 _ _ _
      | exact ih1 _ _ _ _ _ _ _ _
      | exact ih2 _ _ _ _ _ _ _
      | exact ih3 _ _ _ _ _ _ _
      | exact ih4 _ _ _ _
      | exact impl_Number.mono _ _
      | exact impl_OpOk.mono _ _ _ _
      | exact impl_OpText.mono _ _ _ _
      | exact LeO.none _
      | refine LeO.ite ?_ ?_
      | refine LeO.bind ?_ (fun _ => ?_)
    · intro y0 y1 y2 y3 y4 y5 y6
      unfold impl_OpOf.j3
      repeat' first
      | (with_reducible exact ih0 _ _ _)
      | (with_reducible exact ih1 _ _ _ _ _ _ _ _)
      | (with_reducible exact ih2 _ _ _ _ _ _ _)
      | (with_reducible exact ih3 _ _ _ _ _ _ _)
      | (with_reducible exact ih4 _ _ _ _)
      | (with_reducible exact impl_Number.mono _ _)
      | (with_reducible exact impl_OpOk.mono _ _ _ _)
      | (with_reducible exact impl_OpText.mono _ _ _ _)
      | (with_reducible exact LeO.refl _)
      | (with_reducible exact LeO.none _)
      | (with_reducible refine LeO.ite ?_ ?_)
      | (with_reducible refine LeO.bind ?_ (fun _ => ?_))
      | exact ih0 _ _ _
      | exact ih1 _ _ _ _ _ _ _ _
      | exact ih2 _ _ _ _ _ _ _
      | exact ih3 _ _ _ _ _ _ _
      | exact ih4 _ _ _ _
      | exact impl_Number.mono _ _
      | exact impl_OpOk.mono _ _ _ _
      | exact impl_OpText.mono _ _ _ _
      | exact LeO.none _
      | refine LeO.ite ?_ ?_
      | refine LeO.bind ?_ (fun _ => ?_)
    · intro y0 y1 y2 y3
      unfold impl_OpOf.j4
      repeat' first
      | (with_reducible exact ih0 _ _ _)
      | (with_reducible exact ih1 _ _ _ _ _ _ _ _)
      | (with_reducible exact ih2 _ _ _ _ _ _ _)
      | (with_reducible exact ih3 _ _ _ _ _ _ _)
      | (with_reducible exact ih4 _ _ _ _)
      | (with_reducible exact impl_Number.mono _ _)
      | (with_reducible exact impl_OpOk.mono _ _ _ _)
      | (with_reducible exact impl_OpText.mono _ _ _ _)
      | (with_reducible exact LeO.refl _)
      | (with_reducible exact LeO.none _)
      | (with_reducible refine LeO.ite ?_ ?_)
      | (with_reducible refine LeO.bind ?_ (fun _ => ?_))
      | exact ih0 _ _ _
      | exact ih1 _ _ _ _ _ _ _ _
      | exact ih2 _ _ _ _ _ _ _
      | exact ih3 _ _ _ _ _ _ _
      | exact ih4 _ _ _ _
      | exact impl_Number.mono _ _
      | exact impl_OpOk.mono _ _ _ _
      | exact impl_OpText.mono _ _ _ _
      | exact LeO.none _
      | refine LeO.ite ?_ ?_
      | refine LeO.bind ?_ (fun _ => ?_)
theorem impl_OpOf.mono : ∀ a0 k, LeO (impl_OpOf.f k a0) (impl_OpOf.f (k + 1) a0) := by
  intro a0 k
  obtain ⟨ih0, ih1, ih2, ih3, ih4⟩ := impl_OpOf.mono_l k
  unfold impl_OpOf.f
  repeat' first
      | (with_reducible exact ih0 _ _ _)
      | (with_reducible exact ih1 _ _ _ _ _ _ _ _)
      | (with_reducible exact ih2 _ _ _ _ _ _ _)
      | (with_reducible exact ih3 _ _ _ _ _ _ _)
      | (with_reducible exact ih4 _ _ _ _)
      | (with_reducible exact impl_Number.mono _ _)
      | (with_reducible exact impl_OpOk.mono _ _ _ _)
      | (with_reducible exact impl_OpText.mono _ _ _ _)
      | (with_reducible exact LeO.refl _)
      | (with_reducible exact LeO.none _)
      | (with_reducible refine LeO.ite ?_ ?_)
      | (with_reducible refine LeO.bind ?_ (fun _ => ?_))
      | exact ih0 _ _ _
      | exact ih1 _ _ _ _ _ _ _ _
      | exact ih2 _ _ _ _ _ _ _
      | exact ih3 _ _ _ _ _ _ _
      | exact ih4 _ _ _ _
      | exact impl_Number.mono _ _
      | exact impl_OpOk.mono _ _ _ _
      | exact impl_OpText.mono _ _ _ _
      | exact LeO.none _
      | refine LeO.ite ?_ ?_
      | refine LeO.bind ?_ (fun _ => ?_)
set_option maxHeartbeats 8000000 in
set_option maxRecDepth 100000 in
theorem impl_OpOf.calls (k : Nat) (a0 : ByteArray) (r1 : Int) (r2 : Int) (r3 : Int) (r4 : Bool) (w : World) (h : impl_OpOf.f k a0 = some (r1, r2, r3, r4)) :
    Calls Tryd.prog 7 #[.string a0] w fun e w' => e = .returned (.tuple #[.agg #[.int .i64 r1, .int .i64 r2, .int .i64 r3], .bool r4]) ∧ Below w.heap.size w w' := by
  have hu23 := Tryd.underlying23
  have HB := aM (Below.refl w.heap.size w)
  have H := h
  unfold impl_OpOf.f at H
  clear h
  replace H := bE H; obtain ⟨t102, A2, H⟩ := H
  have H' := aM H
  clear H
  go_enter Tryd.func7, Tryd.ntmps7
  go_wp2_with (first | ((with_reducible refine gate_dst (N := 2) rfl ?_); (try (refine gate_guard (by rfl) ?_; dsimp only)); refine boxF 2 #[.int .i64 0, .int .i64 0, .int .i64 0] 23 ?_; intro gbz1 hg wz1 hbox hb; have BKz1 := aM (hbox); have GWz1 := aG hg HB; have GEz1 := aG hg HB; replace HB := aS HB hb; clear hb hbox hg) | (refine goesM 32 12 Tryd.func32 #[.string a0, .int .u8 32] ?_; refine (impl_Split.calls _ _ _ _ A2.out).mono ?_; rintro e wz2 ⟨vz1, rfl, hoz1, hb⟩; refine ⟨_, rfl, ?_⟩; have HOz1 := aM (Kd.R_lower hoz1 (below_size (hX HB.out))); replace BKz1 := aB BKz1 hb; replace HB := aS HB hb; clear hb hoz1))
  go_loopg [5] k (fun kq v5 w' => ∃ (x5_1 : Int) (x102000_1 : Int) (x102001_1 : Int) (x102002_1 : Int), v5 = .int .i64 x5_1 ∧ Aside0 (impl_OpOf.l0 kq a0 t102 x5_1 = some (r1, r2, r3, r4)) ∧ Aside0 (kq ≤ k) ∧ Aside0 (Kd.R Kd.string 9 w' w.heap.size (fun _ => True) vz1 t102) ∧ Aside0 (w'.heap[gbz1]? = some (.cells #[.int .i64 x102000_1, .int .i64 x102001_1, .int .i64 x102002_1] 23 (0, 0))) ∧ Aside0 (Below w.heap.size w w'))
  case atStart => exact ⟨(1), (0), (0), (0), rS, H', ⟨Nat.le_refl _⟩, ⟨(rX HOz1.out)⟩, ⟨(bX BKz1.out)⟩, ⟨(hX HB.out)⟩⟩
  case round =>
    clear H'
    try clear p2
    obtain ⟨x5_1, x102000_1, x102001_1, x102002_1, rfl, HA, HKy1, HO_y1, BKz1, HB⟩ := hrel
    cases gk with
    | zero => exact absurd HA.out (by simp [impl_OpOf.l0])
    | succ k1 =>
      have H := HA.out
      clear HA
      simp only [impl_OpOf.l0] at H
      by_cases c5 : x5_1 ≤ 10
      case neg =>
        rw [if_neg c5] at H
        have c5b0 := decide_eq_false c5
        clear c5
        simp only [Option.some.injEq, Prod.mk.injEq] at H
        obtain ⟨rfl, rfl, rfl, rfl⟩ := H
        obtain ⟨hczx1, hczx2, hczx3, hfzx1, hfzx2, hfzx3⟩ := cZ3 BKz1.out
        go_wp2
        refine bodyPost_ret (results_ct rfl _ _ gbz1 23 #[.int .i64 0, .int .i64 0, .int .i64 0] (0, 0) _ rfl (bP BKz1.out) Tryd.underlying23 rfl (by kernel_rfl)) rfl ?_
        exact ⟨rE, (hX HB.out)⟩
      rw [if_pos c5] at H
      have c5b0 := decide_eq_true c5
      clear c5
      replace H := bE H; obtain ⟨⟨t105, t106, t107⟩, A6, H⟩ := H
      try dsimp only at H
      replace H := ifP H; obtain ⟨c7, H⟩ := H
      have c7b0 := decide_eq_true c7
      have c7b1 : decide (0 < t102.length) = true := decide_eq_true (by omega)
      clear c7
      by_cases c8 : t105.toList = (rdOf ByteArray.empty t102 0).toList
      case neg =>
        rw [if_neg c8] at H
        obtain ⟨c8b0, c8b1⟩ := eqF c8
        have H' := aM H
        clear H
        go_wp2_with (first | (refine goesM 33 19 Tryd.func33 #[.int .i64 x5_1] ?_; refine (impl_opWord.calls _ _ _ _ _ A6.out).mono ?_; rintro e w' ⟨rfl, ⟨nd, rfl⟩⟩; refine ⟨_, rfl, ?_⟩; obtain ⟨Aox1, cox1, eox1⟩ := Kd.R_slice HO_y1.out; subst eox1; have px1 : 0 ≤ (0 : Int) := (by omega); have qx1 : 0 < (t102.length : Int) := odA; obtain ⟨adx1, ex1, hxx1⟩ := Kd.at_string (Kd.R_reads' HO_y1.out).2.2 0 px1 qx1; cases ex1; have qix1 : (0 < t102.length) = True := eq_true (by omega); (try rw [show ((0 : Int)).toNat = 0 from rfl] at hxx1); (try rw [Addr.add_zero'] at hxx1); replace px1 := eq_true px1; replace qx1 := eq_true qx1))
        go_roundg k1
        case measure => have := HKy1.out; omega
        case rel => exact ⟨(wrap64 (x5_1 + 1)), (x102000_1), (x102001_1), (x102002_1), rS, H', ⟨by have := HKy1.out; omega⟩, ⟨(rX HO_y1.out)⟩, ⟨(bX BKz1.out)⟩, ⟨(hX HB.out)⟩⟩
      rw [if_pos c8] at H
      obtain ⟨c8b0, c8b1⟩ := eqT c8
      clear c8
      have HC9 := aM H
      clear H
      go_upto_region 9 with (first | ((with_reducible refine gate_callee (f := 33) rfl ?_); refine goesM 33 19 Tryd.func33 #[.int .i64 x5_1] ?_; refine (impl_opWord.calls _ _ _ _ _ A6.out).mono ?_; rintro e w' ⟨rfl, ⟨nd, rfl⟩⟩; refine ⟨_, rfl, ?_⟩; (try (rw [drewN_self wr]; generalize hq_ : World.drewN wr _ = wr; have nx1 : Aside0 (Kd.R Kd.string 9 wr w.heap.size (fun _ => True) vz1 t102) := ⟨by rw [← hq_]; exact (rX HO_y1.out)⟩; have nx2 : Aside0 (wr.heap[gbz1]? = some (.cells #[.int .i64 x102000_1, .int .i64 x102001_1, .int .i64 x102002_1] 23 (0, 0))) := ⟨by rw [← hq_]; exact (bX BKz1.out)⟩; have nx3 : Aside0 (Below w.heap.size w wr) := ⟨by rw [← hq_]; exact (hX HB.out)⟩; clear HO_y1 BKz1 HB hq_; have HO_y1 := nx1; have BKz1 := nx2; have HB := nx3; clear nx1 nx2 nx3)); obtain ⟨Aox1, cox1, eox1⟩ := Kd.R_slice HO_y1.out; subst eox1; have px1 : 0 ≤ (0 : Int) := (by omega); have qx1 : 0 < (t102.length : Int) := odA; obtain ⟨adx1, ex1, hxx1⟩ := Kd.at_string (Kd.R_reads' HO_y1.out).2.2 0 px1 qx1; cases ex1; have qix1 : (0 < t102.length) = True := eq_true (by omega); (try rw [show ((0 : Int)).toNat = 0 from rfl] at hxx1); (try rw [Addr.add_zero'] at hxx1); replace px1 := eq_true px1; replace qx1 := eq_true qx1) | ((with_reducible refine gate_dst (N := 9) rfl ?_); (try (refine gate_guard (by rfl) ?_; dsimp only)); refine boxF 9 #[.int .i64 0, .int .i64 0, .int .i64 0] 23 ?_; intro gbx1 hg wx1 hbox hb; have BKx1 := aM (hbox); have GWx1 := aG hg HB; have GEx1 := aG hg HB; have NBx1 := aL hg BKz1; have NBx2 := aR hg BKz1; replace HO_y1 := aQ HO_y1 hb; replace BKz1 := aB BKz1 hb; replace HB := aS HB hb; clear hb hbox hg; have hnbx1 := NBx2.out; have hncx1 := NBx1.out; obtain ⟨hczx1, hczx2, hczx3, hfzx1, hfzx2, hfzx3⟩ := cZ3 BKx1.out))
      (try simp only [Act.put, List.setIfInBounds_toArray, List.set_cons_zero, List.set_cons_succ])
      go_cut [36] (fun vx1 wc => ∃ (kq : Nat) (x36_8 : Bool), vx1 = .bool x36_8 ∧ Aside0 (impl_OpOf.j1 kq a0 t102 t107 1 x36_8 x5_1 0 0 = some (r1, r2, r3, r4)) ∧ Aside0 (kq ≤ k1) ∧ Aside0 (Kd.R Kd.string 9 wc w.heap.size (fun _ => True) (.slice (some adx1) t102.length cox1) t102) ∧ Aside0 (wc.heap[gbz1]? = some (.cells #[.int .i64 x102000_1, .int .i64 x102001_1, .int .i64 x102002_1] 23 (0, 0))) ∧ Aside0 (wc.heap[gbx1]? = some (.cells #[.int .i64 x5_1, .int .i64 0, .int .i64 0] 23 (0, 0))) ∧ Aside0 (Below w.heap.size w wc))
      case first =>
        have H := HC9.out
        clear HC9
        by_cases c14 : t106 = true
        · subst c14
          rw [if_pos rfl] at H
          have H' := aM H
          clear H
          go_wp2
          go_meet
          case rel => exact ⟨_, (decide (1 < (t102.length : Int))), rS, H', ⟨by have := HKy1.out; first | omega | exact Nat.le_refl _⟩, ⟨(rT (h := by exact Kd.R_mono (Kd.R_far (p := ⟨gbx1, 2, none⟩) (Kd.R_far (p := ⟨gbx1, 1, none⟩) (Kd.R_far (p := ⟨gbx1, 0, none⟩) (Kd.R_types HO_y1.out BKx1.out (by decide)) (fun _ hk => hk.2) (.int .i64 x5_1)) (fun _ hk => hk.2) (.int .i64 0)) (fun _ hk => hk.2) (.int .i64 0)) (fun _ hk => trivial)))⟩, ⟨(bF BKz1.out)⟩, ⟨(bP BKx1.out)⟩, ⟨(hX HB.out)⟩⟩
        replace c14 := Bool.eq_false_iff.mpr c14
        subst c14
        rw [if_neg nft] at H
        have H' := aM H
        clear H
        go_wp2
        go_meet
        case rel => exact ⟨_, (false), rS, H', ⟨by have := HKy1.out; first | omega | exact Nat.le_refl _⟩, ⟨(rT (h := by exact Kd.R_mono (Kd.R_far (p := ⟨gbx1, 2, none⟩) (Kd.R_far (p := ⟨gbx1, 1, none⟩) (Kd.R_far (p := ⟨gbx1, 0, none⟩) (Kd.R_types HO_y1.out BKx1.out (by decide)) (fun _ hk => hk.2) (.int .i64 x5_1)) (fun _ hk => hk.2) (.int .i64 0)) (fun _ hk => hk.2) (.int .i64 0)) (fun _ hk => trivial)))⟩, ⟨(bF BKz1.out)⟩, ⟨(bP BKx1.out)⟩, ⟨(hX HB.out)⟩⟩
      case rest =>
        clear HC9
        try clear p1
        try clear q1
        try clear hx1
        try clear qi1
        try clear p2
        try clear c5
        try clear c5b0
        try clear p6
        try clear c7
        try clear c7b0
        try clear c7b1
        try clear c8
        try clear c8b0
        try clear c8b1
        try clear p10
        try clear q10
        try clear hx10
        try clear qi10
        try clear hczx1 hczx2 hczx3 hfzx1 hfzx2 hfzx3
        try clear hxx1
        try clear px1
        try clear qx1
        obtain ⟨kq, x36_8, rfl, HA, HJw1, HO_y1, BKz1, BKx1, HB⟩ := hcut
        cases kq with
        | zero => exact absurd HA.out (by simp [impl_OpOf.j1])
        | succ kj8 =>
          have H := HA.out
          clear HA
          simp only [impl_OpOf.j1] at H
          have HC15 := aM H
          clear H
          go_upto_if 36 with (fail)
          go_cut [10] (fun vv1 wc => ∃ (kq : Nat) (x10_14 : Int) (x110001_14 : Int), vv1 = .int .i64 x10_14 ∧ Aside0 (impl_OpOf.j2 kq a0 t102 t107 x10_14 x5_1 x110001_14 0 = some (r1, r2, r3, r4)) ∧ Aside0 (kq ≤ kj8) ∧ Aside0 (Kd.R Kd.string 9 wc w.heap.size (fun _ => True) (.slice (some adx1) t102.length cox1) t102) ∧ Aside0 (wc.heap[gbz1]? = some (.cells #[.int .i64 x102000_1, .int .i64 x102001_1, .int .i64 x102002_1] 23 (0, 0))) ∧ Aside0 (wc.heap[gbx1]? = some (.cells #[.int .i64 x5_1, .int .i64 x110001_14, .int .i64 0] 23 (0, 0))) ∧ Aside0 (Below w.heap.size w wc))
          case first =>
            have H := HC15.out
            clear HC15
            by_cases c16 : x36_8 = true
            case neg =>
              replace c16 := Bool.eq_false_iff.mpr c16
              subst c16
              rw [if_neg nft] at H
              have H' := aM H
              clear H
              go_wp2
              go_meet
              case rel => exact ⟨_, (1), (0), rS, H', ⟨by have := HKy1.out; have := HJw1.out; first | omega | exact Nat.le_refl _⟩, ⟨(rX HO_y1.out)⟩, ⟨(bX BKz1.out)⟩, ⟨(bX BKx1.out)⟩, ⟨(hX HB.out)⟩⟩
            subst c16
            rw [if_pos rfl] at H
            replace H := ifP H; obtain ⟨c17, H⟩ := H
            have c17b0 := decide_eq_true c17
            clear c17
            (first | rw [c17b0] | (simp only [i64_w, i32_w]; rw [c17b0]) | skip)
            replace H := ifP H; obtain ⟨c18, H⟩ := H
            have c18b0 := decide_eq_true c18
            have c18b1 : decide (1 < t102.length) = true := decide_eq_true (by omega)
            clear c18
            replace H := bE H; obtain ⟨⟨t111, t112⟩, A19, H⟩ := H
            try dsimp only at H
            have H' := aM H
            clear H
            have pu1 : 0 ≤ (1 : Int) := (by omega)
            have qu1 : 1 < (t102.length : Int) := odA
            obtain ⟨adu1, eu1, hxu1⟩ := Kd.at_string (Kd.R_reads' HO_y1.out).2.2 1 pu1 qu1
            obtain rfl : adx1 = adu1 := (by injection eu1)
            (try simp only [show (1 : Int).toNat = 1 from rfl, Nat.reduceMul, Nat.reduceEqDiff, Go.Addr.add, ↓reduceIte] at hxu1)
            have qiu1 : (1 < t102.length) = True := eq_true (by omega)
            (try rw [show ((1 : Int)).toNat = 1 from rfl] at hxu1)
            replace pu1 := eq_true pu1
            replace qu1 := eq_true qu1
            go_wp2_with (first | (refine goesM 34 42 Tryd.func34 #[.string (rdOf ByteArray.empty t102 1)] ?_; refine (impl_Number.calls _ _ _ _ _ A19.out).mono ?_; rintro e w' ⟨rfl, ⟨nd, rfl⟩⟩; refine ⟨_, rfl, ?_⟩; (try (rw [drewN_self wc]; generalize hq_ : World.drewN wc _ = wc; have nx1 : Aside0 (Kd.R Kd.string 9 wc w.heap.size (fun _ => True) (.slice (some adx1) t102.length cox1) t102) := ⟨by rw [← hq_]; exact (rX HO_y1.out)⟩; have nx2 : Aside0 (wc.heap[gbz1]? = some (.cells #[.int .i64 x102000_1, .int .i64 x102001_1, .int .i64 x102002_1] 23 (0, 0))) := ⟨by rw [← hq_]; exact (bX BKz1.out)⟩; have nx3 : Aside0 (wc.heap[gbx1]? = some (.cells #[.int .i64 x5_1, .int .i64 0, .int .i64 0] 23 (0, 0))) := ⟨by rw [← hq_]; exact (bX BKx1.out)⟩; have nu1 : Aside0 (Below w.heap.size w wc) := ⟨by rw [← hq_]; exact (hX HB.out)⟩; clear HO_y1 BKz1 BKx1 HB hq_; have HO_y1 := nx1; have BKz1 := nx2; have BKx1 := nx3; have HB := nu1; clear nx1 nx2 nx3 nu1)); have hnbu1 := NBx2.out; have hncu1 := NBx1.out; obtain ⟨hczu1, hczu2, hczu3, hfzu1, hfzu2, hfzu3⟩ := cZ3 BKx1.out))
            go_meet
            case rel => exact ⟨_, (wrap64 (1 + 1)), (t111), (by simp [wrap64]), H', ⟨by have := HKy1.out; have := HJw1.out; first | omega | exact Nat.le_refl _⟩, ⟨(rT (h := by exact Kd.R_mono (Kd.R_far (p := ⟨gbx1, 1, none⟩) (Kd.R_types HO_y1.out BKx1.out (by decide)) (fun _ hk => hk.2) (.int .i64 t111)) (fun _ hk => trivial)))⟩, ⟨(bF BKz1.out)⟩, ⟨(bP BKx1.out)⟩, ⟨(hX HB.out)⟩⟩
          case rest =>
            clear HC15
            try clear p1
            try clear q1
            try clear hx1
            try clear qi1
            try clear p2
            try clear c5
            try clear c5b0
            try clear p6
            try clear c7
            try clear c7b0
            try clear c7b1
            try clear c8
            try clear c8b0
            try clear c8b1
            try clear p10
            try clear q10
            try clear hx10
            try clear qi10
            try clear p11
            try clear q11
            try clear hx11
            try clear qi11
            try clear hczx1 hczx2 hczx3 hfzx1 hfzx2 hfzx3
            try clear hxx1
            try clear hx110_0
            try clear px1
            try clear p110
            try clear qx1
            try clear q110
            obtain ⟨kq, x10_14, x110001_14, rfl, HA, HJu1, HO_y1, BKz1, BKx1, HB⟩ := hcut
            cases kq with
            | zero => exact absurd HA.out (by simp [impl_OpOf.j2])
            | succ kj14 =>
              have H := HA.out
              clear HA
              simp only [impl_OpOf.j2] at H
              have HC22 := aM H
              clear H
              go_upto_region 12 with (fail)
              go_cut [54] (fun vt1 wc => ∃ (kq : Nat) (x54_21 : Bool), vt1 = .bool x54_21 ∧ Aside0 (impl_OpOf.j3 kq a0 t102 x10_14 x54_21 x5_1 x110001_14 0 = some (r1, r2, r3, r4)) ∧ Aside0 (kq ≤ kj14) ∧ Aside0 (Kd.R Kd.string 9 wc w.heap.size (fun _ => True) (.slice (some adx1) t102.length cox1) t102) ∧ Aside0 (wc.heap[gbz1]? = some (.cells #[.int .i64 x102000_1, .int .i64 x102001_1, .int .i64 x102002_1] 23 (0, 0))) ∧ Aside0 (wc.heap[gbx1]? = some (.cells #[.int .i64 x5_1, .int .i64 x110001_14, .int .i64 0] 23 (0, 0))) ∧ Aside0 (Below w.heap.size w wc))
              case first =>
                have H := HC22.out
                clear HC22
                by_cases c23 : t107 = true
                · subst c23
                  rw [if_pos rfl] at H
                  have H' := aM H
                  clear H
                  go_wp2
                  go_meet
                  case rel => exact ⟨_, (decide (x10_14 < (t102.length : Int))), rS, H', ⟨by have := HKy1.out; have := HJw1.out; have := HJu1.out; first | omega | exact Nat.le_refl _⟩, ⟨(rX HO_y1.out)⟩, ⟨(bX BKz1.out)⟩, ⟨(bX BKx1.out)⟩, ⟨(hX HB.out)⟩⟩
                replace c23 := Bool.eq_false_iff.mpr c23
                subst c23
                rw [if_neg nft] at H
                have H' := aM H
                clear H
                go_wp2
                go_meet
                case rel => exact ⟨_, (false), rS, H', ⟨by have := HKy1.out; have := HJw1.out; have := HJu1.out; first | omega | exact Nat.le_refl _⟩, ⟨(rX HO_y1.out)⟩, ⟨(bX BKz1.out)⟩, ⟨(bX BKx1.out)⟩, ⟨(hX HB.out)⟩⟩
              case rest =>
                clear HC22
                try clear p1
                try clear q1
                try clear hx1
                try clear qi1
                try clear p2
                try clear c5
                try clear c5b0
                try clear p6
                try clear c7
                try clear c7b0
                try clear c7b1
                try clear c8
                try clear c8b0
                try clear c8b1
                try clear p10
                try clear q10
                try clear hx10
                try clear qi10
                try clear p11
                try clear q11
                try clear hx11
                try clear qi11
                try clear hczx1 hczx2 hczx3 hfzx1 hfzx2 hfzx3
                try clear hxx1
                try clear hx110_0
                try clear px1
                try clear p110
                try clear qx1
                try clear q110
                obtain ⟨kq, x54_21, rfl, HA, HJs1, HO_y1, BKz1, BKx1, HB⟩ := hcut
                cases kq with
                | zero => exact absurd HA.out (by simp [impl_OpOf.j3])
                | succ kj21 =>
                  have H := HA.out
                  clear HA
                  simp only [impl_OpOf.j3] at H
                  have HC24 := aM H
                  clear H
                  go_upto_if 54 with (fail)
                  go_cut [] (fun wc => ∃ (kq : Nat) (x110002_23 : Int), Aside0 (impl_OpOf.j4 kq a0 x5_1 x110001_14 x110002_23 = some (r1, r2, r3, r4)) ∧ Aside0 (kq ≤ kj21) ∧ Aside0 (wc.heap[gbz1]? = some (.cells #[.int .i64 x102000_1, .int .i64 x102001_1, .int .i64 x102002_1] 23 (0, 0))) ∧ Aside0 (wc.heap[gbx1]? = some (.cells #[.int .i64 x5_1, .int .i64 x110001_14, .int .i64 x110002_23] 23 (0, 0))) ∧ Aside0 (Below w.heap.size w wc))
                  case first =>
                    have H := HC24.out
                    clear HC24
                    by_cases c25 : x54_21 = true
                    case neg =>
                      replace c25 := Bool.eq_false_iff.mpr c25
                      subst c25
                      rw [if_neg nft] at H
                      have H' := aM H
                      clear H
                      go_wp2
                      go_meet
                      case rel => exact ⟨_, (0), H', ⟨by have := HKy1.out; have := HJw1.out; have := HJu1.out; have := HJs1.out; first | omega | exact Nat.le_refl _⟩, ⟨(bX BKz1.out)⟩, ⟨(bX BKx1.out)⟩, ⟨(hX HB.out)⟩⟩
                    subst c25
                    rw [if_pos rfl] at H
                    replace H := ifP H; obtain ⟨c26, H⟩ := H
                    have c26b0 := decide_eq_true c26
                    clear c26
                    (first | rw [c26b0] | (simp only [i64_w, i32_w]; rw [c26b0]) | skip)
                    replace H := ifP H; obtain ⟨c27, H⟩ := H
                    have c27b0 := decide_eq_true c27
                    clear c27
                    replace H := bE H; obtain ⟨⟨t114, t115⟩, A28, H⟩ := H
                    try dsimp only at H
                    have H' := aM H
                    clear H
                    have pq1 : 0 ≤ (x10_14 : Int) := odA
                    have qq1 : x10_14 < (t102.length : Int) := odA
                    obtain ⟨adq1, eq1, hxq1⟩ := Kd.at_string (Kd.R_reads' HO_y1.out).2.2 x10_14 pq1 qq1
                    obtain rfl : adx1 = adq1 := (by injection eq1)
                    replace pq1 := eq_true pq1
                    replace qq1 := eq_true qq1
                    go_wp2_with (first | (refine goesM 34 60 Tryd.func34 #[.string (rdOf ByteArray.empty t102 x10_14)] ?_; refine (impl_Number.calls _ _ _ _ _ A28.out).mono ?_; rintro e w' ⟨rfl, ⟨nd, rfl⟩⟩; refine ⟨_, rfl, ?_⟩; (try (rw [drewN_self wc]; generalize hq_ : World.drewN wc _ = wc; have nx1 : Aside0 (Kd.R Kd.string 9 wc w.heap.size (fun _ => True) (.slice (some adx1) t102.length cox1) t102) := ⟨by rw [← hq_]; exact (rX HO_y1.out)⟩; have nx2 : Aside0 (wc.heap[gbz1]? = some (.cells #[.int .i64 x102000_1, .int .i64 x102001_1, .int .i64 x102002_1] 23 (0, 0))) := ⟨by rw [← hq_]; exact (bX BKz1.out)⟩; have nx3 : Aside0 (wc.heap[gbx1]? = some (.cells #[.int .i64 x5_1, .int .i64 x110001_14, .int .i64 0] 23 (0, 0))) := ⟨by rw [← hq_]; exact (bX BKx1.out)⟩; have nq1 : Aside0 (Below w.heap.size w wc) := ⟨by rw [← hq_]; exact (hX HB.out)⟩; clear HO_y1 BKz1 BKx1 HB hq_; have HO_y1 := nx1; have BKz1 := nx2; have BKx1 := nx3; have HB := nq1; clear nx1 nx2 nx3 nq1)); have hnbq1 := NBx2.out; have hncq1 := NBx1.out; obtain ⟨hczq1, hczq2, hczq3, hfzq1, hfzq2, hfzq3⟩ := cZ3 BKx1.out))
                    go_meet
                    case rel => exact ⟨_, (t114), H', ⟨by have := HKy1.out; have := HJw1.out; have := HJu1.out; have := HJs1.out; first | omega | exact Nat.le_refl _⟩, ⟨(bF BKz1.out)⟩, ⟨(bP BKx1.out)⟩, ⟨(hX HB.out)⟩⟩
                  case rest =>
                    clear HC24
                    try clear p1
                    try clear q1
                    try clear hx1
                    try clear qi1
                    try clear p2
                    try clear c5
                    try clear c5b0
                    try clear p6
                    try clear c7
                    try clear c7b0
                    try clear c7b1
                    try clear c8
                    try clear c8b0
                    try clear c8b1
                    try clear p10
                    try clear q10
                    try clear hx10
                    try clear qi10
                    try clear p11
                    try clear q11
                    try clear hx11
                    try clear qi11
                    try clear hczx1 hczx2 hczx3 hfzx1 hfzx2 hfzx3
                    try clear hxx1
                    try clear hx110_0
                    try clear hx113_0
                    try clear px1
                    try clear p110
                    try clear p113
                    try clear qx1
                    try clear q110
                    try clear q113
                    obtain ⟨kq, x110002_23, HA, HJq1, BKz1, BKx1, HB⟩ := hcut
                    cases kq with
                    | zero => exact absurd HA.out (by simp [impl_OpOf.j4])
                    | succ kj23 =>
                      have H := HA.out
                      clear HA
                      simp only [impl_OpOf.j4] at H
                      replace H := bE H; obtain ⟨t116, A31, H⟩ := H
                      by_cases c32 : t116 = true
                      case neg =>
                        replace c32 := Bool.eq_false_iff.mpr c32
                        subst c32
                        rw [if_neg nft] at H
                        simp only [Option.some.injEq, Prod.mk.injEq] at H
                        obtain ⟨rfl, rfl, rfl, rfl⟩ := H
                        have hnbp1 := NBx2.out
                        have hncp1 := NBx1.out
                        obtain ⟨hczp1, hczp2, hczp3, hfzp1, hfzp2, hfzp3⟩ := cZ3 BKx1.out
                        go_wp2_with (first | (refine goesM 26 65 Tryd.func26 #[.agg #[.int .i64 x5_1, .int .i64 x110001_14, .int .i64 x110002_23]] ?_; refine (impl_OpOk.calls _ _ _ _ _ _ A31.out).mono ?_; rintro e wp1 ⟨rfl, hb⟩; refine ⟨_, rfl, ?_⟩; replace BKz1 := aB BKz1 hb; replace BKx1 := aB BKx1 hb; replace HB := aS HB hb; clear hb; obtain ⟨hczp4, hczp5, hczp6, hfzp4, hfzp5, hfzp6⟩ := cZ3 BKz1.out))
                        refine bodyPost_ret (results_ct rfl _ _ gbz1 23 #[.int .i64 0, .int .i64 0, .int .i64 0] (0, 0) _ rfl (bP BKz1.out) Tryd.underlying23 rfl (by kernel_rfl)) rfl ?_
                        exact ⟨rE, (hX HB.out)⟩
                      subst c32
                      rw [if_pos rfl] at H
                      replace H := bE H; obtain ⟨t117, A33, H⟩ := H
                      have hnbp1 := NBx2.out
                      have hncp1 := NBx1.out
                      obtain ⟨hczp1, hczp2, hczp3, hfzp1, hfzp2, hfzp3⟩ := cZ3 BKx1.out
                      go_wp2_with (first | (refine goesM 26 65 Tryd.func26 #[.agg #[.int .i64 x5_1, .int .i64 x110001_14, .int .i64 x110002_23]] ?_; refine (impl_OpOk.calls _ _ _ _ _ _ A31.out).mono ?_; rintro e wp1 ⟨rfl, hb⟩; refine ⟨_, rfl, ?_⟩; replace BKz1 := aB BKz1 hb; replace BKx1 := aB BKx1 hb; replace HB := aS HB hb; clear hb; obtain ⟨hczp4, hczp5, hczp6, hfzp4, hfzp5, hfzp6⟩ := cZ3 BKx1.out; refine Stop.out ?_))
                      refine ⟨?_⟩
                      by_cases c34 : t117.toList = a0.toList
                      case neg =>
                        rw [if_neg c34] at H
                        obtain ⟨c34b0, c34b1⟩ := eqF c34
                        simp only [Option.some.injEq, Prod.mk.injEq] at H
                        obtain ⟨rfl, rfl, rfl, rfl⟩ := H
                        go_wp2_with (first | (go_at_call 16; (with_reducible refine (impl_OpText.calls _ _ _ _ _ _ A33.out).mono ?_); rintro e wp2 ⟨rfl, hb⟩; replace BKz1 := aB BKz1 hb; replace BKx1 := aB BKx1 hb; replace HB := aS HB hb; clear hb; obtain ⟨hczp7, hczp8, hczp9, hfzp7, hfzp8, hfzp9⟩ := cZ3 BKz1.out))
                        refine bodyPost_ret (results_ct rfl _ _ gbz1 23 #[.int .i64 0, .int .i64 0, .int .i64 0] (0, 0) _ rfl (bP BKz1.out) Tryd.underlying23 rfl (by kernel_rfl)) rfl ?_
                        exact ⟨rE, (hX HB.out)⟩
                      rw [if_pos c34] at H
                      obtain ⟨c34b0, c34b1⟩ := eqT c34
                      clear c34
                      simp only [Option.some.injEq, Prod.mk.injEq] at H
                      obtain ⟨rfl, rfl, rfl, rfl⟩ := H
                      go_wp2_with (first | (go_at_call 16; (with_reducible refine (impl_OpText.calls _ _ _ _ _ _ A33.out).mono ?_); rintro e wp2 ⟨rfl, hb⟩; replace BKz1 := aB BKz1 hb; replace BKx1 := aB BKx1 hb; replace HB := aS HB hb; clear hb; obtain ⟨hczp7, hczp8, hczp9, hfzp7, hfzp8, hfzp9⟩ := cZ3 BKx1.out; obtain ⟨hczp10, hczp11, hczp12, hfzp10, hfzp11, hfzp12⟩ := cZ3 BKz1.out))
                      refine bodyPost_ret (results_ct rfl _ _ gbz1 23 #[.int .i64 x5_1, .int .i64 x110001_14, .int .i64 x110002_23] (0, 0) _ rfl (bP BKz1.out) Tryd.underlying23 rfl (by kernel_rfl)) rfl ?_
                      exact ⟨rE, (hX HB.out)⟩
def laws_eqOp.f (a0_0 : Int) (a0_1 : Int) (a0_2 : Int) (a1_0 : Int) (a1_1 : Int) (a1_2 : Int) : Option (Bool) := if a0_0 = a1_0 then (if a0_1 = a1_1 then (if a0_2 = a1_2 then (some true) else (some false)) else (some false)) else (some false)
set_option maxHeartbeats 8000000 in
set_option maxRecDepth 100000 in
theorem laws_eqOp.calls (a0_0 : Int) (a0_1 : Int) (a0_2 : Int) (a1_0 : Int) (a1_1 : Int) (a1_2 : Int) (r : Bool) (w : World) (h : laws_eqOp.f a0_0 a0_1 a0_2 a1_0 a1_1 a1_2 = some r) :
    Calls Tryd.prog 8 #[.agg #[.int .i64 a0_0, .int .i64 a0_1, .int .i64 a0_2], .agg #[.int .i64 a1_0, .int .i64 a1_1, .int .i64 a1_2]] w fun e w' => e = .returned (.bool r) ∧ Below w.heap.size w w' := by
  have hu23 := Tryd.underlying23
  have HB := aM (Below.refl w.heap.size w)
  have H := h
  unfold laws_eqOp.f at H
  clear h
  go_enter Tryd.func8, Tryd.ntmps8
  go_wp2_with (first | (refine boxE 2 #[.int .i64 a0_0, .int .i64 a0_1, .int .i64 a0_2] 23 ?_; intro gbz1 hg wz1 hbox hb; have BKz1 := aM (hbox); have GWz1 := aG hg HB; have GEz1 := aG hg HB; replace HB := aS HB hb; clear hb hbox hg) | (refine boxE 3 #[.int .i64 a1_0, .int .i64 a1_1, .int .i64 a1_2] 23 ?_; intro gbz2 hg wz2 hbox hb; have BKz2 := aM (hbox); have GWz2 := aG hg HB; have GEz2 := aG hg HB; have NBz1 := aL hg BKz1; have NBz2 := aR hg BKz1; replace BKz1 := aB BKz1 hb; replace HB := aS HB hb; clear hb hbox hg; have hnbz1 := NBz1.out; have hncz1 := NBz2.out; obtain ⟨hczz1, hczz2, hczz3, hfzz1, hfzz2, hfzz3⟩ := cZ3 BKz1.out; obtain ⟨hczz4, hczz5, hczz6, hfzz4, hfzz5, hfzz6⟩ := cZ3 BKz2.out; refine Stop.out ?_))
  refine ⟨?_⟩
  by_cases c3 : a0_0 = a1_0
  case neg =>
    rw [if_neg c3] at H
    obtain ⟨c3b0, c3b1⟩ := eqF c3
    obtain rfl := sI H
    go_wp2
    go_ret
    exact ⟨rE, (hX HB.out)⟩
  rw [if_pos c3] at H
  obtain ⟨c3b0, c3b1⟩ := eqT c3
  clear c3
  by_cases c4 : a0_1 = a1_1
  case neg =>
    rw [if_neg c4] at H
    obtain ⟨c4b0, c4b1⟩ := eqF c4
    obtain rfl := sI H
    go_wp2
    go_ret
    exact ⟨rE, (hX HB.out)⟩
  rw [if_pos c4] at H
  obtain ⟨c4b0, c4b1⟩ := eqT c4
  clear c4
  by_cases c5 : a0_2 = a1_2
  case neg =>
    rw [if_neg c5] at H
    obtain ⟨c5b0, c5b1⟩ := eqF c5
    obtain rfl := sI H
    go_wp2
    go_ret
    exact ⟨rE, (hX HB.out)⟩
  rw [if_pos c5] at H
  obtain ⟨c5b0, c5b1⟩ := eqT c5
  clear c5
  obtain rfl := sI H
  go_wp2
  go_ret
  exact ⟨rE, (hX HB.out)⟩
def laws_FnExactOpOf.f (k : Nat) (a0 : ByteArray) : Option (Bool) := if (a0.size : Int) > 1048576 then (some true) else ((spec_OpOf.f k a0).bind fun bt101 => ((impl_OpOf.f k a0).bind fun bt106 => ((laws_eqOp.f bt106.1 bt106.2.1 bt106.2.2.1 bt101.1 bt101.2.1 bt101.2.2.1).bind fun t111 => (if t111 = true then (if (bt106.2.2.2 != bt101.2.2.2) = true then (some false) else (some true)) else (some false)))))
set_option maxHeartbeats 8000000 in
set_option maxRecDepth 100000 in
theorem laws_FnExactOpOf.calls (k : Nat) (a0 : ByteArray) (r : Bool) (w : World) (h : laws_FnExactOpOf.f k a0 = some r) :
    Calls Tryd.prog 3 #[.string a0] w fun e w' => e = .returned (.bool r) ∧ Below w.heap.size w w' := by
  have hu23 := Tryd.underlying23
  have HB := aM (Below.refl w.heap.size w)
  have H := h
  unfold laws_FnExactOpOf.f at H
  clear h
  go_enter Tryd.func3, Tryd.ntmps3
  by_cases c2 : (a0.size : Int) > 1048576
  · rw [if_pos c2] at H
    have c2b0 := decide_eq_true c2
    have c2b1 : decide (1048576 < a0.size) = true := decide_eq_true (by omega)
    clear c2
    obtain rfl := sI H
    go_wp2
    go_ret
    exact ⟨rE, (hX HB.out)⟩
  rw [if_neg c2] at H
  have c2b0 := decide_eq_false c2
  have c2b1 : decide (1048576 < a0.size) = false := decide_eq_false (by omega)
  clear c2
  replace H := bE H; obtain ⟨⟨t101, t102, t103, t104⟩, A3, H⟩ := H
  try dsimp only at H
  replace H := bE H; obtain ⟨⟨t106, t107, t108, t109⟩, A4, H⟩ := H
  try dsimp only at H
  replace H := bE H; obtain ⟨t111, A5, H⟩ := H
  go_wp2_with (first | (refine goesM 6 12 Tryd.func6 #[.string a0] ?_; refine (spec_OpOf.calls _ _ _ _ _ _ _ A3.out).mono ?_; rintro e wz1 ⟨rfl, hb⟩; refine ⟨_, rfl, ?_⟩; replace HB := aS HB hb; clear hb) | (refine boxE 3 #[.int .i64 0, .int .i64 0, .int .i64 0] 23 ?_; intro gbz1 hg wz2 hbox hb; have BKz1 := aM (hbox); have GWz1 := aG hg HB; have GEz1 := aG hg HB; replace HB := aS HB hb; clear hb hbox hg; obtain ⟨hczz1, hczz2, hczz3, hfzz1, hfzz2, hfzz3⟩ := cZ3 BKz1.out) | (refine goesM 7 17 Tryd.func7 #[.string a0] ?_; refine (impl_OpOf.calls _ _ _ _ _ _ _ A4.out).mono ?_; rintro e wz3 ⟨rfl, hb⟩; refine ⟨_, rfl, ?_⟩; replace BKz1 := aM (blk_below (g := gbz1) (o := .cells #[.int .i64 t101, .int .i64 t102, .int .i64 t103] 23 (0, 0)) (bP BKz1.out) hb); replace HB := aS HB hb; clear hb) | (refine boxE 5 #[.int .i64 0, .int .i64 0, .int .i64 0] 23 ?_; intro gbz2 hg wz4 hbox hb; have BKz2 := aM (hbox); have GWz2 := aG hg HB; have GEz2 := aG hg HB; have NBz1 := aL hg BKz1; have NBz2 := aR hg BKz1; replace BKz1 := aB BKz1 hb; replace HB := aS HB hb; clear hb hbox hg; have hnbz1 := NBz2.out; have hncz1 := NBz1.out; obtain ⟨hczz4, hczz5, hczz6, hfzz4, hfzz5, hfzz6⟩ := cZ3 BKz2.out; obtain ⟨hczz7, hczz8, hczz9, hfzz7, hfzz8, hfzz9⟩ := cZ3 BKz1.out; refine Stop.out ?_))
  refine ⟨?_⟩
  by_cases c6 : t111 = true
  case neg =>
    replace c6 := Bool.eq_false_iff.mpr c6
    subst c6
    rw [if_neg nft] at H
    obtain rfl := sI H
    go_wp2_with (first | (refine goesM 8 22 Tryd.func8 #[.agg #[.int .i64 t106, .int .i64 t107, .int .i64 t108], .agg #[.int .i64 t101, .int .i64 t102, .int .i64 t103]] ?_; refine (laws_eqOp.calls _ _ _ _ _ _ _ _ A5.out).mono ?_; rintro e wz5 ⟨rfl, hb⟩; refine ⟨_, rfl, ?_⟩; replace BKz1 := aF BKz1 hb; replace BKz2 := aM (blk_below (g := gbz2) (o := .cells #[.int .i64 t106, .int .i64 t107, .int .i64 t108] 23 (0, 0)) (bP BKz2.out) hb); replace HB := aS HB hb; clear hb))
    go_ret
    exact ⟨rE, (hX HB.out)⟩
  subst c6
  rw [if_pos rfl] at H
  go_wp2_with (first | (refine goesM 8 22 Tryd.func8 #[.agg #[.int .i64 t106, .int .i64 t107, .int .i64 t108], .agg #[.int .i64 t101, .int .i64 t102, .int .i64 t103]] ?_; refine (laws_eqOp.calls _ _ _ _ _ _ _ _ A5.out).mono ?_; rintro e wz5 ⟨rfl, hb⟩; refine ⟨_, rfl, ?_⟩; replace BKz1 := aF BKz1 hb; replace BKz2 := aM (blk_below (g := gbz2) (o := .cells #[.int .i64 t106, .int .i64 t107, .int .i64 t108] 23 (0, 0)) (bP BKz2.out) hb); replace HB := aS HB hb; clear hb; refine Stop.out ?_))
  refine ⟨?_⟩
  by_cases c7 : (t109 != t104) = true
  case neg =>
    rw [if_neg c7] at H
    have c7b0 : (t109 != t104) = false := by simpa using c7
    (try (have c7b1 : decide (t109 = t104) = true := by simpa using c7))
    (try (have c7b2 : (t109 == t104) = true := by simpa using c7))
    clear c7
    obtain rfl := sI H
    go_wp2
    go_ret
    exact ⟨rE, (hX HB.out)⟩
  rw [if_pos c7] at H
  have c7b0 : (t109 != t104) = true := c7
  (try (have c7b1 : decide (t109 = t104) = false := by simpa using c7))
  (try (have c7b2 : (t109 == t104) = false := by simpa using c7))
  (try (have c7b3 : ¬ (t109 = t104) := by simpa using c7))
  clear c7
  obtain rfl := sI H
  go_wp2
  go_ret
  exact ⟨rE, (hX HB.out)⟩
end Go.Proofs.YtafcfhgdblefgaaDoor.P
namespace Go.Proofs.YtafcfhgdblefgaaDoorZ
open Go.RowKit Go.Proofs.YtafcfhgdblefgaaDoorW.PrintWords Go.Proofs.YtafcfhgdblefgaaDoorW.PrintLast
def Opens {α : Type} (P : Program) (t : TypeId) (d : Kd α) (wf : α → Prop) : Prop :=
  ∀ (H : Type) (enc : TypeId × Value → H) (w : World) (fuel : Nat) (cs : List Value) (x : DataW H × List MemPlace),
    DataW.trod enc P w 0 (fun _ => true) true fuel t cs = some x → ∃ a, d.K w a cs ∧ wf a
theorem Opens.int {P : Program} {t : TypeId} {k : IntKind} (hu : P.underlying t = some (.int k)) : Opens P t (Kd.int k) (fun n => (Lit.int k n).wf = true) := by
  intro H enc w fuel cs x h
  obtain ⟨n, rfl, _, hw⟩ := DataW.trod_int hu h
  exact ⟨n, rfl, hw⟩
theorem Opens.bool {P : Program} {t : TypeId} (hu : P.underlying t = some .bool) : Opens P t Kd.bool (fun _ => True) := by
  intro H enc w fuel cs x h
  obtain ⟨n, rfl, _⟩ := DataW.trod_bool hu h
  exact ⟨n, rfl, trivial⟩
theorem Opens.string {P : Program} {t : TypeId} (hu : P.underlying t = some .string) : Opens P t Kd.string (fun s => s.size ≤ 9223372036854775807) := by
  intro H enc w fuel cs x h
  obtain ⟨n, rfl, _, hw⟩ := DataW.trod_string hu h
  exact ⟨n, rfl, by simpa [maxLen] using hw⟩
theorem exists_list {α : Type} (Q : Nat → α → Prop) : ∀ n, (∀ i, i < n → ∃ y, Q i y) → ∃ xs : List α, xs.length = n ∧ ∀ j p, xs[j]? = some p → Q j p
  | 0, _ => ⟨[], rfl, fun j p h => by simp at h⟩
  | n + 1, h => by
    obtain ⟨xs, hl, hx⟩ := exists_list Q n (fun i hi => h i (by omega))
    obtain ⟨y, hy⟩ := h n (by omega)
    refine ⟨xs ++ [y], by simp [hl], fun j p hj => ?_⟩
    by_cases hjn : j < n
    · rw [List.getElem?_append_left (by omega)] at hj
      exact hx j p hj
    · have hlt := (List.getElem?_eq_some_iff.1 hj).1
      rw [List.length_append, List.length_singleton, hl] at hlt
      obtain rfl : j = n := by omega
      rw [List.getElem?_append_right (by omega), hl, Nat.sub_self] at hj
      obtain rfl : y = p := by simpa using hj
      exact hy
theorem Opens.slice {α : Type} {P : Program} {t e : TypeId} {d : Kd α} {wf : α → Prop} (e' : Nat) (hu : P.underlying t = some (.slice e)) (hc : P.cellsOf e = d.sz) (he : Opens P e d wf) :
    Opens P t (Kd.slice e' d) (fun xs => xs.length ≤ 9223372036854775807 ∧ ∀ a ∈ xs, wf a) := by
  intro H enc w fuel cs x h
  rcases DataW.trod_slice hu h with ⟨rfl, _⟩ | ⟨a, len, cap, elems, rest, n, _, rfl, _, hb, hl, hm, hlen, hel, _, _⟩
  · exact ⟨[], ⟨none, 0, rfl, Nat.le_refl _, Kd.C_nil _ _⟩, by simp⟩
  · have each : ∀ i, i < len → ∃ y, wf y ∧ ∃ c, c.length = d.sz ∧ d.K w y c ∧ ∀ j u, c[j]? = some u → w.cell? (a.add (i * d.sz + j)) = some u := by
      intro i hi
      have h1 := hel i hi
      rw [List.getElem?_eq_getElem (by omega), hc, Option.bind_eq_some_iff] at h1
      obtain ⟨c, hcs, hy⟩ := h1
      obtain ⟨y, hK, hw⟩ := he _ _ _ _ _ _ hy
      refine ⟨y, hw, c, d.K_len hK, hK, fun j u hj => ?_⟩
      have h2 := World.cells?_some hcs
      rw [← Addr.add_add]
      have hjl := (List.getElem?_eq_some_iff.1 hj).1
      rw [← hj]
      exact (h2.2.2 j (by rw [← h2.2.1]; exact hjl))
    obtain ⟨xs, hxl, hxs⟩ := exists_list _ len each
    simp only [maxLen] at hm
    refine ⟨xs, ⟨some a, cap, by rw [hxl], by omega, rfl, by omega, fun _ => ⟨a, rfl, fun j p hj => ?_⟩⟩, by omega, fun y hy => ?_⟩
    · obtain ⟨_, c, hcl, hK, hcell⟩ := hxs j p hj
      exact ⟨c, hcl, hK, hcell⟩
    · obtain ⟨j, hj⟩ := List.getElem?_of_mem hy
      exact (hxs j y hj).1
def OpensF {α : Type} (P : Program) (fs : Array Field) (o : Nat) (d : Kd α) (wf : α → Prop) : Prop :=
  ∀ (H : Type) (enc : TypeId × Value → H) (w : World) (fuel : Nat) (cs : List Value) (xs : List (DataW H × List MemPlace)), cs.length = o + d.sz → xs.length = fs.size →
    (∀ (j : Nat) (f : Field), fs[j]? = some f → DataW.trod enc P w 0 (fun _ => true) true fuel f.type ((cs.drop f.offset).take (P.cellsOf f.type)) = xs[j]?) → ∃ a, d.K w a (cs.drop o) ∧ wf a
theorem OpensF.cons {α β : Type} {P : Program} {fs : Array Field} {o : Nat} {d : Kd α} {d' : Kd β} {wf : α → Prop} {wf' : β → Prop} (i : Nat) (f : Field) (hf : fs[i]? = some f) (ho : f.offset = o) (hc : P.cellsOf f.type = d.sz) (h : Opens P f.type d wf)
    (h' : OpensF P fs (o + d.sz) d' wf') : OpensF P fs o (Kd.pair d d') (fun x => wf x.1 ∧ wf' x.2) := by
  intro H enc w fuel cs xs hl hx hall
  have h1 := hall i f hf
  have hi : i < xs.length := by rw [hx]; exact (Array.getElem?_eq_some_iff.1 hf).1
  rw [List.getElem?_eq_getElem hi, ho, hc] at h1
  obtain ⟨a, hK, hw⟩ := h _ _ _ _ _ _ h1
  have hl' : cs.length = o + (d.sz + d'.sz) := hl
  obtain ⟨b, hK', hw'⟩ := h' H enc w fuel cs xs (by omega) hx hall
  refine ⟨(a, b), ⟨_, _, ?_, hK, hK'⟩, hw, hw'⟩
  rw [← List.drop_drop, List.take_append_drop]
theorem Opens.struct {α β : Type} {P : Program} {t : TypeId} {fs : Array Field} {d : Kd α} {wf : α → Prop} (f : β → α) (g : α → β) (hfg : ∀ a, f (g a) = a) (hu : P.underlying t = some (.struct fs)) (hc : P.cellsOf t = d.sz) (h : OpensF P fs 0 d wf) :
    Opens P t (Kd.iso d f) (fun b => wf (f b)) := by
  intro H enc w fuel cs x hx
  obtain ⟨xs, n, _, _, hl, hxl, hall⟩ := DataW.trod_struct hu hx
  obtain ⟨a, hK, hw⟩ := h H enc w n cs xs (by omega) hxl hall
  refine ⟨g a, ?_, ?_⟩
  · show d.K w (f (g a)) cs
    rw [hfg]; exact hK
  · show wf (f (g a))
    rw [hfg]; exact hw
end Go.Proofs.YtafcfhgdblefgaaDoorZ
namespace Go.Proofs.YtafcfhgdblefgaaDoor.P
open Go.RowKit Go.Proofs.YtafcfhgdblefgaaDoorW.PrintWords Go.Proofs.YtafcfhgdblefgaaDoorW.PrintLast Go.Proofs.YtafcfhgdblefgaaDoorZ
def PureFnExactOpOf : Prop := ∀ (x0 : ByteArray), x0.size ≤ 9223372036854775807 → ∃ k, laws_FnExactOpOf.f k x0 = some true
end Go.Proofs.YtafcfhgdblefgaaDoor.P
namespace Go.Proofs.YtafcfhgdblefgaaDoorW.PrintWords
section
variable {α : Type}
theorem Ev.shift {g : Nat → Option α} {r : α} (h : Ev (fun k => g (k + 1)) r) : Ev g r := Ev.step (fun _ => rfl) h
theorem Ev.val {a r : α} (h : a = r) : Ev (fun _ => some a) r := by subst h; exact Ev.now _
theorem Ev.to {g : Nat → Option α} {a r : α} (h : Ev g a) (e : a = r) : Ev g r := e ▸ h
theorem Ev.pos {p : Prop} [Decidable p] {g f : Nat → Option α} {r : α} (h : p) (hg : Ev g r) : Ev (fun k => if p then g k else f k) r := by
  simp only [if_pos h]; exact hg
theorem Ev.neg {p : Prop} [Decidable p] {g f : Nat → Option α} {r : α} (h : ¬ p) (hf : Ev f r) : Ev (fun k => if p then g k else f k) r := by
  simp only [if_neg h]; exact hf
theorem Ev.det {g : Nat → Option α} {a b : α} (h : Ev g a) (h' : Ev g b) : a = b := by
  obtain ⟨K, hK⟩ := h
  obtain ⟨L, hL⟩ := h'
  have h1 := hK (max K L) (Nat.le_max_left _ _)
  have h2 := hL (max K L) (Nat.le_max_right _ _)
  rw [h1] at h2
  exact Option.some.inj h2
end
end Go.Proofs.YtafcfhgdblefgaaDoorW.PrintWords
namespace Go.Proofs.YtafcfhgdblefgaaDoorZ
open Go.RowKit Go.Proofs.YtafcfhgdblefgaaDoorW.PrintWords
theorem back {n : Nat} {Q : Nat → Prop} (hn : Q n) (hs : ∀ i, i < n → Q (i + 1) → Q i) : ∀ i, i ≤ n → Q i := by
  intro i hi
  obtain ⟨d, rfl⟩ : ∃ d, n = i + d := ⟨n - i, by omega⟩
  clear hi
  induction d generalizing i with
  | zero => exact hn
  | succ d ih =>
    refine hs i (by omega) (ih (i + 1) ?_ ?_)
    · rw [show i + 1 + d = i + (d + 1) by omega]; exact hn
    · intro j hj; exact hs j (by omega)
theorem w64 {n : Int} (h1 : -9223372036854775808 ≤ n) (h2 : n < 9223372036854775808) : wrap64 n = n := by unfold wrap64; omega
theorem succ64 {i n : Nat} (h : i < n) (hn : n ≤ 9223372036854775807) : wrap64 ((i : Int) + 1) = ((i + 1 : Nat) : Int) := by
  rw [w64 (by omega) (by omega)]; simp
section
variable {τ σ : Type}
end
end Go.Proofs.YtafcfhgdblefgaaDoorZ
namespace Go.Proofs.YtafcfhgdblefgaaDoor.P
open Go.RowKit Go.Proofs.YtafcfhgdblefgaaDoorW.PrintWords Go.Proofs.YtafcfhgdblefgaaDoorW.PrintLast Go.Proofs.YtafcfhgdblefgaaDoorZ
theorem digit_str {d : Int} (h0 : 0 ≤ d) (h1 : d ≤ 9) : strOfNums [(wrap64 (48 + d)) % 256] = ⟨#[UInt8.ofNat (48 + d.toNat)]⟩ := by
  have : d = 0 ∨ d = 1 ∨ d = 2 ∨ d = 3 ∨ d = 4 ∨ d = 5 ∨ d = 6 ∨ d = 7 ∨ d = 8 ∨ d = 9 := by omega
  rcases this with rfl | rfl | rfl | rfl | rfl | rfl | rfl | rfl | rfl | rfl <;> decide +kernel
theorem digit_enc {d : Int} (h0 : 0 ≤ d) (h1 : d ≤ 9) : Go.Utf8.encode (wrap32 (wrap64 (48 + d))) = ⟨#[UInt8.ofNat (48 + d.toNat)]⟩ := by
  have : d = 0 ∨ d = 1 ∨ d = 2 ∨ d = 3 ∨ d = 4 ∨ d = 5 ∨ d = 6 ∨ d = 7 ∨ d = 8 ∨ d = 9 := by omega
  rcases this with rfl | rfl | rfl | rfl | rfl | rfl | rfl | rfl | rfl | rfl <;> decide +kernel
def dgs (n : Nat) : ByteArray := if h : n < 10 then ⟨#[UInt8.ofNat (48 + n)]⟩ else dgs (n / 10) ++ ⟨#[UInt8.ofNat (48 + n % 10)]⟩
termination_by n
decreasing_by omega
theorem dgs_lt {n : Nat} (h : n < 10) : dgs n = ⟨#[UInt8.ofNat (48 + n)]⟩ := by rw [dgs, dif_pos h]
theorem dgs_ge {n : Nat} (h : ¬ n < 10) : dgs n = dgs (n / 10) ++ ⟨#[UInt8.ofNat (48 + n % 10)]⟩ := by rw [dgs, dif_neg h]
theorem dgs_size : ∀ (d n : Nat), n < 10 ^ (d + 1) → (dgs n).size ≤ d + 1 := by
  intro d
  induction d with
  | zero =>
    intro n h
    rw [dgs_lt (by simpa using h)]
    exact Nat.le_refl _
  | succ d ih =>
    intro n h
    by_cases hn : n < 10
    · rw [dgs_lt hn]; show 1 ≤ _; omega
    · rw [dgs_ge hn, ByteArray.size_append]
      have := ih (n / 10) (by rw [Nat.pow_succ] at h; omega)
      show _ + 1 ≤ _
      omega
def dstr (n : Int) : ByteArray := if n < 0 then ⟨#[45]⟩ ++ dgs n.natAbs else dgs n.natAbs
theorem dstr_size {n : Int} (h0 : -9223372036854775808 ≤ n) (h1 : n < 9223372036854775808) : (dstr n).size ≤ 20 := by
  have := dgs_size 18 n.natAbs (by omega)
  unfold dstr
  split
  · rw [ByteArray.size_append]; show 1 + _ ≤ _; omega
  · omega
theorem append_assoc_ (a b c : ByteArray) : a ++ b ++ c = a ++ (b ++ c) := ByteArray.append_assoc
theorem empty_append_ (a : ByteArray) : (⟨#[]⟩ : ByteArray) ++ a = a := ByteArray.empty_append
theorem append_empty_ (a : ByteArray) : a ++ (⟨#[]⟩ : ByteArray) = a := ByteArray.append_empty
theorem tdiv_pos (m : Nat) : Int.tdiv (m : Int) 10 = ((m / 10 : Nat) : Int) := rfl
theorem tdiv_neg (m : Nat) : Int.tdiv (-(m : Int)) 10 = -((m / 10 : Nat) : Int) := by rw [Int.neg_tdiv]; rfl
theorem tmod_pos (m : Nat) : Int.tmod (m : Int) 10 = ((m % 10 : Nat) : Int) := rfl
theorem tmod_neg (m : Nat) : Int.tmod (-(m : Int)) 10 = -((m % 10 : Nat) : Int) := by rw [Int.neg_tmod]; rfl
theorem spec_loop (b : Bool) : ∀ (d m : Nat) (neg : Bool) (out : ByteArray), m < 10 ^ d → m ≤ 9223372036854775808 → (neg = false → m < 9223372036854775808) → out.size + d ≤ 100 →
    Ev (fun k => spec_Digits.l0 k (if neg then -(m : Int) else (m : Int)) b out) ((if b then (⟨#[45]⟩ : ByteArray) else ⟨#[]⟩) ++ ((if m = 0 then ⟨#[]⟩ else dgs m) ++ out)) := by
  intro d
  induction d with
  | zero =>
    intro m neg out h _ _ hs
    obtain rfl : m = 0 := by simpa using h
    refine Ev.shift ?_
    have e : (if neg then -((0 : Nat) : Int) else ((0 : Nat) : Int)) = 0 := by cases neg <;> rfl
    simp only [e, spec_Digits.l0, if_true, empty_append_]
    cases b with
    | true =>
      have : 1 + out.size ≤ 9223372036854775807 := by omega
      simp only [this, if_true]
      exact Ev.now _
    | false =>
      simp only [Bool.false_eq_true, if_false, empty_append_]
      exact Ev.now _
  | succ d ih =>
    intro m neg out h hm hn hs
    by_cases h0 : m = 0
    · subst h0
      refine Ev.shift ?_
      have e : (if neg then -((0 : Nat) : Int) else ((0 : Nat) : Int)) = 0 := by cases neg <;> rfl
      simp only [e, spec_Digits.l0, if_true, empty_append_]
      cases b with
      | true =>
        have : 1 + out.size ≤ 9223372036854775807 := by omega
        simp only [this, if_true]
        exact Ev.now _
      | false =>
        simp only [Bool.false_eq_true, if_false, empty_append_]
        exact Ev.now _
    · have hd := ih (m / 10) neg (⟨#[UInt8.ofNat (48 + m % 10)]⟩ ++ out) (by rw [Nat.pow_succ] at h; omega) (by omega) (by intro h; have := hn h; omega)
        (by rw [ByteArray.size_append]; show 1 + _ + _ ≤ _; omega)
      have hsz : (⟨#[UInt8.ofNat (48 + m % 10)]⟩ : ByteArray).size + out.size ≤ 9223372036854775807 := by show 1 + out.size ≤ _; omega
      have hdig : strOfNums [(wrap64 (48 + ((m % 10 : Nat) : Int))) % 256] = ⟨#[UInt8.ofNat (48 + m % 10)]⟩ := digit_str (by omega) (by omega)
      have hres : (if m / 10 = 0 then (⟨#[]⟩ : ByteArray) else dgs (m / 10)) ++ (⟨#[UInt8.ofNat (48 + m % 10)]⟩ ++ out) = (if m = 0 then ⟨#[]⟩ else dgs m) ++ out := by
        rw [if_neg h0]
        by_cases h9 : m < 10
        · rw [if_pos (by omega), dgs_lt h9, empty_append_, Nat.mod_eq_of_lt h9]
        · rw [if_neg (by omega), dgs_ge h9, append_assoc_]
      rw [hres] at hd
      refine Ev.shift ?_
      cases neg with
      | false =>
        have hm' := hn rfl
        have c1 : ¬ ((m : Int) = 0) := by omega
        have c2 : ¬ (((m % 10 : Nat) : Int) < 0) := by omega
        have c3 : wrap64 ((m / 10 : Nat) : Int) = ((m / 10 : Nat) : Int) := w64 (by omega) (by omega)
        simp only [Bool.false_eq_true, if_false] at hd
        simp only [Bool.false_eq_true, if_false, spec_Digits.l0, c1, tmod_pos, c2, Option.bind_some, hdig, hsz, if_true, tdiv_pos, c3]
        exact hd
      | true =>
        have c1 : ¬ (-(m : Int) = 0) := by omega
        have c3 : wrap64 (-((m / 10 : Nat) : Int)) = -((m / 10 : Nat) : Int) := w64 (by omega) (by omega)
        simp only [if_true] at hd
        by_cases hz : m % 10 = 0
        · have c2 : ¬ (-((m % 10 : Nat) : Int) < 0) := by omega
          have hdig' : strOfNums [(wrap64 (48 + -((m % 10 : Nat) : Int))) % 256] = ⟨#[UInt8.ofNat (48 + m % 10)]⟩ := by rw [hz]; decide +kernel
          simp only [if_true, spec_Digits.l0, c1, if_false, tmod_neg, c2, Option.bind_some, hdig', hsz, tdiv_neg, c3]
          exact hd
        · have c2 : -((m % 10 : Nat) : Int) < 0 := by omega
          have c4 : wrap64 (-(-((m % 10 : Nat) : Int))) = ((m % 10 : Nat) : Int) := by rw [Int.neg_neg]; exact w64 (by omega) (by omega)
          simp only [if_true, spec_Digits.l0, c1, if_false, tmod_neg, c2, c4, Option.bind_some, hdig, hsz, tdiv_neg, c3]
          exact hd
theorem spec_Digits_ev (n : Int) (h0 : -9223372036854775808 ≤ n) (h1 : n < 9223372036854775808) : Ev (fun k => spec_Digits.f k n) (dstr n) := by
  by_cases hz : n = 0
  · subst hz
    simp only [spec_Digits.f, if_true]
    refine Ev.val ?_
    unfold dstr
    rw [if_neg (by omega)]
    exact (dgs_lt (n := 0) (by decide)).symm
  · have h := spec_loop (decide (n < 0)) 19 n.natAbs (decide (n < 0)) ⟨#[]⟩ (by omega) (by omega) (by intro h; have : ¬ n < 0 := of_decide_eq_false h; omega) (by show 0 + 19 ≤ 100; omega)
    have e : (if decide (n < 0) = true then -(n.natAbs : Int) else (n.natAbs : Int)) = n := by
      by_cases hn : n < 0
      · rw [if_pos (decide_eq_true hn)]; omega
      · rw [if_neg (by simpa using hn)]; omega
    rw [e] at h
    simp only [spec_Digits.f, hz, if_false]
    refine h.to ?_
    unfold dstr
    rw [append_empty_, if_neg (show ¬ n.natAbs = 0 by omega)]
    by_cases hn : n < 0
    · rw [if_pos (decide_eq_true hn), if_pos hn]
    · rw [if_neg (by simpa using hn), if_neg hn, empty_append_]
theorem impl_Digits_nat : ∀ (d m : Nat), m < 10 ^ (d + 1) → m < 9223372036854775808 → d ≤ 30 → Ev (fun k => impl_Digits.f k (m : Int)) (dgs m) := by
  intro d
  induction d with
  | zero =>
    intro m h hm _
    have h9 : m < 10 := by simpa using h
    refine Ev.shift ?_
    have c1 : ¬ ((m : Int) < 0) := by omega
    have c2 : (m : Int) < 10 := by omega
    simp only [impl_Digits.f, c1, if_false]
    refine Ev.shift ?_
    simp only [impl_Digits.j0, Bool.false_eq_true, c1, if_false, c2, if_true, digit_enc (d := (m : Int)) (by omega) (by omega)]
    refine Ev.val ?_
    rw [dgs_lt h9, Int.toNat_natCast]
  | succ d ih =>
    intro m h hm hd
    by_cases h9 : m < 10
    · exact ih m (by have : 10 ^ 1 ≤ 10 ^ (d + 1) := Nat.pow_le_pow_right (by decide) (by omega); omega) hm (by omega)
    · have h1 := ih (m / 10) (by rw [Nat.pow_succ] at h; omega) (by omega) (by omega)
      have hs := dgs_size 18 (m / 10) (by omega)
      refine Ev.shift ?_
      have c1 : ¬ ((m : Int) < 0) := by omega
      have c2 : ¬ ((m : Int) < 10) := by omega
      simp only [impl_Digits.f, c1, if_false]
      refine Ev.shift ?_
      have e1 : wrap64 ((m / 10 : Nat) : Int) = ((m / 10 : Nat) : Int) := w64 (by omega) (by omega)
      have e2 : Go.Utf8.encode (wrap32 (wrap64 (48 + ((m % 10 : Nat) : Int)))) = ⟨#[UInt8.ofNat (48 + m % 10)]⟩ := digit_enc (by omega) (by omega)
      have c3 : (dgs (m / 10)).size + (⟨#[UInt8.ofNat (48 + m % 10)]⟩ : ByteArray).size ≤ 9223372036854775807 := by show _ + 1 ≤ _; omega
      simp only [impl_Digits.j0, Bool.false_eq_true, c1, if_false, c2, tdiv_pos, tmod_pos, e1, e2]
      refine Ev.bind h1 ?_
      simp only [c3, if_true]
      exact Ev.val (dgs_ge h9).symm
theorem impl_Digits_ev (n : Int) (h0 : -9223372036854775808 ≤ n) (h1 : n < 9223372036854775808) : Ev (fun k => impl_Digits.f k n) (dstr n) := by
  by_cases hn : n < 0
  · obtain ⟨m, rfl⟩ : ∃ m : Nat, n = -(m : Int) := ⟨n.natAbs, by omega⟩
    have ed : dstr (-(m : Int)) = ⟨#[45]⟩ ++ dgs m := by unfold dstr; rw [if_pos hn, Int.natAbs_neg, Int.natAbs_natCast]
    rw [ed]
    refine Ev.shift ?_
    simp only [impl_Digits.f, hn, if_true]
    refine Ev.shift ?_
    by_cases h9 : -(m : Int) > -10
    · have hd := impl_Digits_nat 18 m (by omega) (by omega) (by decide)
      have hs := dgs_size 18 m (by omega)
      have e1 : wrap64 (-(-(m : Int))) = (m : Int) := by rw [Int.neg_neg]; exact w64 (by omega) (by omega)
      have c : 1 + (dgs m).size ≤ 9223372036854775807 := by omega
      simp only [impl_Digits.j0, h9, decide_true, if_true, e1]
      refine Ev.bind hd ?_
      simp only [c, if_true]
      exact Ev.now _
    · have hq : Ev (fun k => impl_Digits.f k (-((m / 10 : Nat) : Int))) (dstr (-((m / 10 : Nat) : Int))) := impl_Digits_ev (-((m / 10 : Nat) : Int)) (by omega) (by omega)
      have hr := impl_Digits_nat 18 (m % 10) (by omega) (by omega) (by decide)
      have e0 : dstr (-((m / 10 : Nat) : Int)) = ⟨#[45]⟩ ++ dgs (m / 10) := by unfold dstr; rw [if_pos (by omega), Int.natAbs_neg, Int.natAbs_natCast]
      have hs := dgs_size 18 (m / 10) (by omega)
      have hs' := dgs_size 0 (m % 10) (by simp; omega)
      have e1 : wrap64 (-((m / 10 : Nat) : Int)) = -((m / 10 : Nat) : Int) := w64 (by omega) (by omega)
      have e2 : wrap64 (-(-((m % 10 : Nat) : Int))) = ((m % 10 : Nat) : Int) := by rw [Int.neg_neg]; exact w64 (by omega) (by omega)
      have c : (dstr (-((m / 10 : Nat) : Int))).size + (dgs (m % 10)).size ≤ 9223372036854775807 := by
        rw [e0, ByteArray.size_append]; show 1 + _ + _ ≤ _; omega
      simp only [impl_Digits.j0, h9, decide_false, Bool.false_eq_true, hn, if_false, if_true, tdiv_neg, tmod_neg, e1, e2]
      refine Ev.bind hq (Ev.bind hr ?_)
      simp only [c, if_true]
      refine Ev.val ?_
      rw [e0, append_assoc_, dgs_ge (n := m) (by omega), dgs_lt (show m % 10 < 10 by omega)]
  · obtain ⟨m, rfl⟩ : ∃ m : Nat, n = (m : Int) := ⟨n.toNat, by omega⟩
    have ed : dstr (m : Int) = dgs m := by unfold dstr; rw [if_neg hn, Int.natAbs_natCast]
    rw [ed]
    exact impl_Digits_nat 18 m (by omega) (by omega) (by decide)
termination_by n.natAbs
decreasing_by omega
def keyB (b : Int) : Bool := decide (0 ≤ b ∧ b ≤ 3)
def valB (c : Int) : Bool := decide (1 ≤ c ∧ c ≤ 6)
def clsB (b : Int) : Bool := decide (0 ≤ b ∧ b ≤ 2)
def opOk (a b c : Int) : Bool :=
  if a = 1 then keyB b && valB c else if a = 2 then keyB b && valB c else if a = 3 then keyB b && (c == 0) else if a = 4 then keyB b && (c == 0)
  else if a = 5 then (b == 0) && valB c else if a = 6 then clsB b && (c == 0) else if a = 7 then (b == 0) && (c == 0) else if a = 8 then (b == 0) && (c == 0) else if a = 9 then (b == 0) && (c == 0)
  else if a = 10 then (b == 0) && valB c else false
theorem in_dec (n lo hi : Int) : (if n ≥ lo then some (decide (n ≤ hi)) else some false) = some (decide (lo ≤ n ∧ n ≤ hi)) := by
  by_cases h : n ≥ lo
  · have h' : lo ≤ n := h
    simp [h, h']
  · have h' : ¬ lo ≤ n := h
    simp [h, h']
theorem specIn_eq (n lo hi : Int) : spec_l1In.f n lo hi = some (decide (lo ≤ n ∧ n ≤ hi)) := in_dec n lo hi
theorem implFrom_eq (n lo hi : Int) : impl_from.f n lo hi = some (decide (lo ≤ n ∧ n ≤ hi)) := in_dec n lo hi
theorem spec_OpOk_at (a b c : Int) (h : 1 ≤ a ∧ a ≤ 10) (k : Nat) : spec_OpOk.f (k + 1 + 1) a b c = some (opOk a b c) := by
  have h' : a = 1 ∨ a = 2 ∨ a = 3 ∨ a = 4 ∨ a = 5 ∨ a = 6 ∨ a = 7 ∨ a = 8 ∨ a = 9 ∨ a = 10 := by omega
  simp only [spec_OpOk.f, spec_OpOk.j0, spec_OpOk.j1, spec_l4Key.f, spec_l4Val.f, spec_KeyOk.f, spec_ValOk.f, specIn_eq, Option.bind_some, opOk, keyB, valB, clsB]
  generalize decide (0 ≤ b ∧ b ≤ 3) = kb
  generalize decide (1 ≤ c ∧ c ≤ 6) = vc
  generalize decide (0 ≤ b ∧ b ≤ 2) = cb
  generalize (b == 0) = b0
  generalize (c == 0) = c0
  rcases h' with rfl | rfl | rfl | rfl | rfl | rfl | rfl | rfl | rfl | rfl <;> cases kb <;> cases vc <;> cases cb <;> cases b0 <;> cases c0 <;> rfl
theorem spec_OpOk_ev (a b c : Int) : Ev (fun k => spec_OpOk.f k a b c) (opOk a b c) := by
  by_cases h : 1 ≤ a ∧ a ≤ 10
  · refine Ev.shift (Ev.shift ?_)
    simp only [spec_OpOk_at a b c h]
    exact Ev.now _
  · have : opOk a b c = false := by
      unfold opOk
      rw [if_neg (by omega), if_neg (by omega), if_neg (by omega), if_neg (by omega), if_neg (by omega), if_neg (by omega), if_neg (by omega), if_neg (by omega), if_neg (by omega), if_neg (by omega)]
    rw [this]
    simp only [spec_OpOk.f, specIn_eq, Option.bind_some, h, decide_false, Bool.false_eq_true, if_false]
    exact Ev.now _
theorem impl_OpOk_at (a b c : Int) (h : 1 ≤ a ∧ a ≤ 10) (k : Nat) : impl_OpOk.f (k + 1 + 1 + 1) a b c = some (opOk a b c) := by
  have h' : a = 1 ∨ a = 2 ∨ a = 3 ∨ a = 4 ∨ a = 5 ∨ a = 6 ∨ a = 7 ∨ a = 8 ∨ a = 9 ∨ a = 10 := by omega
  have e1 : (if b = 0 then some (c == 0) else some false) = some ((b == 0) && (c == 0)) := by by_cases hb : b = 0 <;> simp [hb]
  have e2 : (if b = 0 then some (decide (1 ≤ c ∧ c ≤ 6)) else some false) = some ((b == 0) && decide (1 ≤ c ∧ c ≤ 6)) := by by_cases hb : b = 0 <;> simp [hb]
  simp only [impl_OpOk.f, impl_OpOk.j0, impl_OpOk.j1, impl_OpOk.j2, impl_KeyOk.f, impl_ValOk.f, impl_isClass.f, implFrom_eq, Option.bind_some, opOk, keyB, valB, clsB, e1, e2]
  generalize decide (0 ≤ b ∧ b ≤ 3) = kb
  generalize decide (1 ≤ c ∧ c ≤ 6) = vc
  generalize decide (0 ≤ b ∧ b ≤ 2) = cb
  generalize (b == 0) = b0
  generalize (c == 0) = c0
  rcases h' with rfl | rfl | rfl | rfl | rfl | rfl | rfl | rfl | rfl | rfl <;> cases kb <;> cases vc <;> cases cb <;> cases b0 <;> cases c0 <;> rfl
theorem impl_OpOk_ev (a b c : Int) : Ev (fun k => impl_OpOk.f k a b c) (opOk a b c) := by
  refine Ev.shift (Ev.shift (Ev.shift ?_))
  by_cases h : 1 ≤ a ∧ a ≤ 10
  · simp only [impl_OpOk_at a b c h]
    exact Ev.now _
  · have : opOk a b c = false := by
      unfold opOk
      rw [if_neg (by omega), if_neg (by omega), if_neg (by omega), if_neg (by omega), if_neg (by omega), if_neg (by omega), if_neg (by omega), if_neg (by omega), if_neg (by omega), if_neg (by omega)]
    rw [this]
    have h1 : ¬ a = 1 := by omega
    have h2 : ¬ a = 2 := by omega
    have h3 : ¬ a = 3 := by omega
    have h4 : ¬ a = 4 := by omega
    have h5 : ¬ a = 5 := by omega
    have h6 : ¬ a = 6 := by omega
    have h7 : ¬ a = 7 := by omega
    have h8 : ¬ a = 8 := by omega
    have h9 : ¬ a = 9 := by omega
    have h10 : ¬ a = 10 := by omega
    simp only [impl_OpOk.f, impl_OpOk.j0, impl_OpOk.j1, impl_OpOk.j2, h1, h2, h3, h4, h5, h6, h7, h8, h9, h10, beq_iff_eq, if_false]
    exact Ev.now _
def i64in (n : Int) : Prop := -9223372036854775808 ≤ n ∧ n < 9223372036854775808
def opNames : List ByteArray := [⟨#[]⟩, ⟨#[112, 117, 116]⟩, ⟨#[115, 101, 116]⟩, ⟨#[100, 101, 108]⟩, ⟨#[103, 101, 116]⟩, ⟨#[102, 105, 110, 100]⟩, ⟨#[99, 111, 117, 110, 116]⟩, ⟨#[115, 99, 97, 110]⟩, ⟨#[111, 112, 101, 110]⟩, ⟨#[109, 97, 107, 101]⟩, ⟨#[118, 105, 97]⟩]
def opName (a : Int) : ByteArray := rdOf ByteArray.empty opNames a
def hasK (a : Int) : Bool := decide (1 ≤ a ∧ a ≤ 4) || (a == 6)
def hasV (a : Int) : Bool := (a == 1) || (a == 2) || (a == 5) || (a == 10)
def sp1 : ByteArray := ⟨#[32]⟩
def withK (x : ByteArray) (a b : Int) : ByteArray := if hasK a = true then x ++ (sp1 ++ dstr b) else x
def withV (x : ByteArray) (a c : Int) : ByteArray := if hasV a = true then x ++ (sp1 ++ dstr c) else x
def optext (a b c : Int) : ByteArray := if opOk a b c = true then withV (withK (opName a) a b) a c else ⟨#[110, 111, 110, 101]⟩
theorem opOk_kind {a b c : Int} (h : opOk a b c = true) : 1 ≤ a ∧ a ≤ 10 := by
  apply Classical.byContradiction
  intro hn
  have : opOk a b c = false := by
    unfold opOk
    rw [if_neg (by omega), if_neg (by omega), if_neg (by omega), if_neg (by omega), if_neg (by omega), if_neg (by omega), if_neg (by omega), if_neg (by omega), if_neg (by omega), if_neg (by omega)]
  rw [this] at h
  cases h
theorem opName_size {a : Int} (h0 : 1 ≤ a) (h1 : a ≤ 10) : (opName a).size ≤ 5 := by
  have : a = 1 ∨ a = 2 ∨ a = 3 ∨ a = 4 ∨ a = 5 ∨ a = 6 ∨ a = 7 ∨ a = 8 ∨ a = 9 ∨ a = 10 := by omega
  rcases this with rfl | rfl | rfl | rfl | rfl | rfl | rfl | rfl | rfl | rfl <;> decide +kernel
theorem spec_j1_ev (x : ByteArray) (a b c : Int) (hx : x.size ≤ 1000) (hc : i64in c) : Ev (fun k => spec_OpText.j1 k x a b c) (withV x a c) := by
  have hs := dstr_size hc.1 hc.2
  refine Ev.shift ?_
  have hv : spec_l4Val.f a = some (hasV a) := by
    unfold spec_l4Val.f hasV
    by_cases h1 : a = 1
    · simp [h1]
    · by_cases h2 : a = 2
      · simp [h2]
      · by_cases h5 : a = 5
        · simp [h5]
        · simp [h1, h2, h5]
  simp only [spec_OpText.j1, hv, Option.bind_some, withV]
  by_cases h : hasV a = true
  · have c1 : x.size + 1 ≤ 9223372036854775807 := by omega
    have c2 : (x ++ (⟨#[32]⟩ : ByteArray)).size + (dstr c).size ≤ 9223372036854775807 := by rw [ByteArray.size_append]; show _ + 1 + _ ≤ _; omega
    simp only [h, c1, if_true]
    refine Ev.bind (spec_Digits_ev c hc.1 hc.2) ?_
    simp only [c2, if_true]
    exact Ev.val ByteArray.append_assoc
  · simp only [h, if_false]
    exact Ev.now _
theorem spec_j0_ev (x : ByteArray) (f : Bool) (a b c : Int) (hx : x.size ≤ 500) (hb : i64in b) (hc : i64in c) : Ev (fun k => spec_OpText.j0 k x f a b c) (withV (if f = true then x ++ (sp1 ++ dstr b) else x) a c) := by
  have hs := dstr_size hb.1 hb.2
  refine Ev.shift ?_
  simp only [spec_OpText.j0]
  cases f
  · simp only [Bool.false_eq_true, if_false]
    exact spec_j1_ev x a b c (by omega) hc
  · have c1 : x.size + 1 ≤ 9223372036854775807 := by omega
    have c2 : (x ++ (⟨#[32]⟩ : ByteArray)).size + (dstr b).size ≤ 9223372036854775807 := by rw [ByteArray.size_append]; show _ + 1 + _ ≤ _; omega
    simp only [c1, if_true]
    refine Ev.bind (spec_Digits_ev b hb.1 hb.2) ?_
    simp only [c2, if_true]
    have e : x ++ (⟨#[32]⟩ : ByteArray) ++ dstr b = x ++ (sp1 ++ dstr b) := ByteArray.append_assoc
    rw [e]
    exact spec_j1_ev _ a b c (by simp only [ByteArray.size_append]; show _ + (1 + _) ≤ _; omega) hc
theorem spec_OpText_ev (a b c : Int) (hb : i64in b) (hc : i64in c) : Ev (fun k => spec_OpText.f k a b c) (optext a b c) := by
  simp only [spec_OpText.f, optext]
  refine Ev.bind (spec_OpOk_ev a b c) ?_
  by_cases h : opOk a b c = true
  · have hk := opOk_kind h
    have hn := opName_size hk.1 hk.2
    have c1 : 0 ≤ a := by omega
    have c2 : a < ((opNames.length : Nat) : Int) := by show a < ((11 : Nat) : Int); omega
    have hl : spec_l14Names.f = some opNames := rfl
    have hkey : spec_l4Key.f a = some (decide (1 ≤ a ∧ a ≤ 4)) := by simp only [spec_l4Key.f, specIn_eq, Option.bind_some]
    simp only [h, if_true, hl, Option.bind_some, c1, c2, hkey]
    by_cases hk4 : 1 ≤ a ∧ a ≤ 4
    · have := spec_j0_ev (opName a) true a b c (by omega) hb hc
      simp only [hk4, decide_true, if_true, and_self]
      have e : withK (opName a) a b = opName a ++ (sp1 ++ dstr b) := by
        unfold withK hasK
        rw [if_pos (by simp [hk4])]
      rw [e]
      exact this
    · have := spec_j0_ev (opName a) (a == 6) a b c (by omega) hb hc
      simp only [hk4, decide_false, Bool.false_eq_true, if_false]
      have e : withK (opName a) a b = if (a == 6) = true then opName a ++ (sp1 ++ dstr b) else opName a := by
        unfold withK hasK
        simp [hk4]
      rw [e]
      exact this
  · simp only [h, if_false]
    exact Ev.now _
theorem opWord_eq {a : Int} (h0 : 1 ≤ a) (h1 : a ≤ 10) : impl_opWord.f a = some (opName a, hasK a, hasV a) := by
  have : a = 1 ∨ a = 2 ∨ a = 3 ∨ a = 4 ∨ a = 5 ∨ a = 6 ∨ a = 7 ∨ a = 8 ∨ a = 9 ∨ a = 10 := by omega
  rcases this with rfl | rfl | rfl | rfl | rfl | rfl | rfl | rfl | rfl | rfl <;> rfl
theorem impl_OpText_ev (a b c : Int) (hb : i64in b) (hc : i64in c) : Ev (fun k => impl_OpText.f k a b c) (optext a b c) := by
  simp only [impl_OpText.f, optext]
  refine Ev.bind (impl_OpOk_ev a b c) ?_
  by_cases h : opOk a b c = true
  · have hk := opOk_kind h
    have hn := opName_size hk.1 hk.2
    have hsb := dstr_size hb.1 hb.2
    have hsc := dstr_size hc.1 hc.2
    have b1 : 1 + (dstr b).size ≤ 9223372036854775807 := by omega
    have b2 : (opName a).size + ((⟨#[32]⟩ : ByteArray) ++ dstr b).size ≤ 9223372036854775807 := by rw [ByteArray.size_append]; show _ + (1 + _) ≤ _; omega
    have c1 : 1 + (dstr c).size ≤ 9223372036854775807 := by omega
    have c2 : (opName a ++ ((⟨#[32]⟩ : ByteArray) ++ dstr b)).size + ((⟨#[32]⟩ : ByteArray) ++ dstr c).size ≤ 9223372036854775807 := by simp only [ByteArray.size_append]; show _ + (1 + _) + (1 + _) ≤ _; omega
    have c3 : (opName a).size + ((⟨#[32]⟩ : ByteArray) ++ dstr c).size ≤ 9223372036854775807 := by rw [ByteArray.size_append]; show _ + (1 + _) ≤ _; omega
    simp only [h, if_true, opWord_eq hk.1 hk.2, Option.bind_some, withK, withV]
    cases hK : hasK a
    · cases hV : hasV a
      · simp only [Bool.false_eq_true, if_false]
        exact Ev.now _
      · simp only [Bool.false_eq_true, if_false, if_true]
        refine Ev.bind (impl_Digits_ev c hc.1 hc.2) ?_
        simp only [c1, c3, if_true]
        exact Ev.now _
    · cases hV : hasV a
      · simp only [Bool.false_eq_true, if_false, if_true]
        refine Ev.bind (impl_Digits_ev b hb.1 hb.2) ?_
        simp only [b1, b2, if_true]
        exact Ev.now _
      · simp only [if_true]
        refine Ev.bind (impl_Digits_ev b hb.1 hb.2) ?_
        simp only [b1, b2, if_true]
        refine Ev.bind (impl_Digits_ev c hc.1 hc.2) ?_
        simp only [c1, c2, if_true]
        exact Ev.now _
  · simp only [h, if_false]
    exact Ev.now _
section
variable {α β : Type} {P : α → Prop} {Q : β → Prop}
def Gets {α : Type} (g : Nat → Option α) (P : α → Prop) : Prop := ∃ r, Ev g r ∧ P r
theorem Gets.of {g : Nat → Option α} {r : α} (h : Ev g r) (p : P r) : Gets g P := ⟨r, h, p⟩
theorem Gets.shift {g : Nat → Option α} (h : Gets (fun k => g (k + 1)) P) : Gets g P := by
  obtain ⟨r, e, p⟩ := h
  exact ⟨r, Ev.shift e, p⟩
theorem Gets.bind {g : Nat → Option α} {f : Nat → α → Option β} (h : Gets g P) (k : ∀ a, P a → Gets (fun n => f n a) Q) : Gets (fun n => (g n).bind fun a => f n a) Q := by
  obtain ⟨a, e, p⟩ := h
  obtain ⟨r, e2, q⟩ := k a p
  exact ⟨r, Ev.bind e e2, q⟩
theorem Gets.bindE {g : Nat → Option α} {f : Nat → α → Option β} {a : α} (h : Ev g a) (k : Gets (fun n => f n a) Q) : Gets (fun n => (g n).bind fun a => f n a) Q := by
  obtain ⟨r, e2, q⟩ := k
  exact ⟨r, Ev.bind h e2, q⟩
theorem Gets.now {r : α} (p : P r) : Gets (fun _ => some r) P := ⟨r, Ev.now r, p⟩
theorem Gets.pos {p : Prop} [Decidable p] {g f : Nat → Option α} (h : p) (hg : Gets g P) : Gets (fun k => if p then g k else f k) P := by
  simp only [if_pos h]; exact hg
theorem Gets.neg {p : Prop} [Decidable p] {g f : Nat → Option α} (h : ¬ p) (hf : Gets f P) : Gets (fun k => if p then g k else f k) P := by
  simp only [if_neg h]; exact hf
theorem Gets.ite {p : Prop} [Decidable p] {g f : Nat → Option α} (hg : p → Gets g P) (hf : ¬ p → Gets f P) : Gets (fun k => if p then g k else f k) P := by
  by_cases h : p
  · exact Gets.pos h (hg h)
  · exact Gets.neg h (hf h)
end
theorem ba_of_toList {a b : ByteArray} (h : a.toList = b.toList) : a = b := by
  rw [ByteArray.toList_eq, ByteArray.toList_eq] at h
  cases a; cases b; congr 1; exact Array.toList_inj.mp h
def sp (c : UInt8) : List UInt8 → List UInt8 → List (List UInt8)
  | cur, [] => [cur]
  | cur, b :: l => if b = c then cur :: sp c [] l else sp c (cur ++ [b]) l
def pre (cur : List UInt8) : List (List UInt8) → List (List UInt8)
  | [] => [cur]
  | x :: xs => (cur ++ x) :: xs
theorem sp_ne (c : UInt8) : ∀ (l cur : List UInt8), sp c cur l ≠ []
  | [], _ => by simp [sp]
  | b :: l, cur => by
    unfold sp
    split
    · simp
    · exact sp_ne c l _
theorem pre_nil {l : List (List UInt8)} (h : l ≠ []) : pre [] l = l := by
  cases l with
  | nil => exact absurd rfl h
  | cons x xs => simp [pre]
theorem splitK_ne (c : List UInt8) (s : Nat) : ∀ (k : Nat) (l : List UInt8), Lib.splitK c s k l ≠ []
  | 0, _ => by simp [Lib.splitK]
  | k + 1, l => by unfold Lib.splitK; split <;> simp
theorem index_pos {c : UInt8} {l : List UInt8} (h : 0 < l.count c) : ∃ i : Nat, Lib.index l [c] = i := by
  have hg := Lib.index_ge l [c]
  by_cases e : Lib.index l [c] = -1
  · exfalso
    rw [Lib.index_one] at e
    have := Lib.indexByte_none e
    have hm : c ∈ l := List.count_pos_iff.mp h
    obtain ⟨n, hn, rfl⟩ := List.getElem_of_mem hm
    exact this n (List.getElem?_eq_getElem hn)
  · exact ⟨(Lib.index l [c]).toNat, by omega⟩
theorem sp_split (c : UInt8) : ∀ (l cur : List UInt8), sp c cur l = pre cur (Lib.splitK [c] 0 (l.count c) l)
  | [], cur => by simp [sp, Lib.splitK, pre]
  | b :: l, cur => by
    unfold sp
    by_cases h : b = c
    · subst h
      rw [if_pos rfl, List.count_cons_self, sp_split b l []]
      have hi : Lib.index (b :: l) [b] = 0 := by unfold Lib.index; rw [if_pos (by simp)]
      have hk : Lib.splitK [b] 0 (l.count b + 1) (b :: l) = [] :: Lib.splitK [b] 0 (l.count b) l := by
        rw [Lib.splitK, hi, if_neg (by decide)]
        simp
      rw [pre_nil (splitK_ne _ _ _ _), hk, pre, List.append_nil]
    · rw [if_neg h, List.count_cons_of_ne (by simpa using h), sp_split c l (cur ++ [b])]
      cases hk : l.count c with
      | zero => simp [Lib.splitK, pre]
      | succ k =>
        obtain ⟨i, hi⟩ := index_pos (c := c) (l := l) (by omega)
        have hb : Lib.index (b :: l) [c] = ((i + 1 : Nat) : Int) := by
          unfold Lib.index
          rw [if_neg (by simp [List.isPrefixOf]; exact fun e => h e.symm), hi, if_neg (by first | (simp; done) | (simp; omega))]
          first | done | simp
        unfold Lib.splitK
        rw [hi, hb, if_neg (by first | (simp; done) | (simp; omega)), if_neg (by first | (simp; done) | (simp; omega))]
        simp only [Int.toNat_natCast, Nat.add_zero, List.length_singleton, pre, List.take_succ_cons, List.drop_succ_cons, List.append_assoc, List.singleton_append]
def ba (l : List UInt8) : ByteArray := ⟨l.toArray⟩
theorem ba_data (s : ByteArray) : ba s.data.toList = s := by cases s; rfl
def parts (c : UInt8) (s : ByteArray) : List ByteArray := (sp c [] s.data.toList).map ba
theorem parts_ne (c : UInt8) (s : ByteArray) : 0 < (parts c s).length := by
  unfold parts
  rw [List.length_map]
  exact List.length_pos_iff.mpr (sp_ne c _ _)
theorem sp_len (c : UInt8) : ∀ (l cur x : List UInt8), x ∈ sp c cur l → x.length ≤ cur.length + l.length
  | [], cur, x, h => by simp only [sp, List.mem_singleton] at h; subst h; simp
  | b :: l, cur, x, h => by
    unfold sp at h
    split at h
    · simp only [List.mem_cons] at h
      rcases h with rfl | h
      · omega
      · have := sp_len c l [] x h
        simp only [List.length_nil, List.length_cons] at this ⊢
        omega
    · have := sp_len c l _ x h
      rw [List.length_append] at this
      simp at this ⊢
      omega
theorem parts_size {c : UInt8} {s x : ByteArray} (h : x ∈ parts c s) : x.size ≤ s.size := by
  obtain ⟨l, hl, rfl⟩ := List.mem_map.mp h
  have := sp_len c _ _ l hl
  simp only [List.length_nil, Nat.zero_add, Array.length_toList] at this
  exact this
theorem parts_rd (c : UInt8) (s : ByteArray) (i : Int) : (rdOf ByteArray.empty (parts c s) i).size ≤ s.size := by
  unfold rdOf
  rw [List.getD_eq_getElem?_getD]
  cases h : (parts c s)[i.toNat]? with
  | none => exact Nat.zero_le _
  | some x => exact parts_size (List.mem_of_getElem? h)
theorem split_parts (s : ByteArray) (c : UInt8) : Lib.splitB ⟨#[c]⟩ 0 (Lib.countB s ⟨#[c]⟩) s = parts c s := by
  have h := Lib.splitB_data (⟨#[c]⟩ : ByteArray) 0 (Lib.countB s ⟨#[c]⟩) s
  have e : Lib.countB s ⟨#[c]⟩ = s.data.toList.count c := Lib.count_one c _
  have h2 : (Lib.splitB ⟨#[c]⟩ 0 (Lib.countB s ⟨#[c]⟩) s).map (·.data.toList) = sp c [] s.data.toList := by
    rw [h, sp_split, pre_nil (splitK_ne _ _ _ _), e]
  unfold parts
  rw [← h2, List.map_map]
  have : (ba ∘ fun x : ByteArray => x.data.toList) = id := by funext x; exact ba_data x
  rw [this, List.map_id]
theorem impl_Split_eq (s : ByteArray) (c : UInt8) (a : Int) (ha : strOfNums [a] = ⟨#[c]⟩) (hs : s.size ≤ 1048576) : impl_Split.f s a = some (parts c s) := by
  simp only [impl_Split.f, ha, strings_Split.f]
  rw [if_pos ⟨by omega, rfl⟩, Option.bind_some, split_parts]
theorem bt_getElem {s : ByteArray} {i : Nat} (h : i < s.data.toList.length) : bt s (i : Int) = (s.data.toList[i].toNat : Int) := by
  have h2 : i < s.size := by rw [Array.length_toList] at h; exact h
  unfold bt
  rw [dif_pos (show (i : Int).toNat < s.size from h2)]
  rfl
theorem spec_Split_ev (s : ByteArray) (c : UInt8) (hs : s.size ≤ 1048576) : Ev (fun k => spec_Split.f k s (c.toNat : Int)) (parts c s) := by
  have hlen : s.data.toList.length = s.size := Array.length_toList
  have key : ∀ i, i ≤ s.size → ∀ (out : List ByteArray) (fr : Nat), fr ≤ i → out.length ≤ i →
      Ev (fun k => spec_Split.l0 k s (c.toNat : Int) out (fr : Int) (i : Int)) (out ++ (sp c ((s.data.toList.take i).drop fr) (s.data.toList.drop i)).map ba) := by
    refine back ?_ (fun i hi ih => ?_)
    · intro out fr hf ho
      have d1 : (0 : Int) ≤ (fr : Int) := by omega
      have d2 : (fr : Int) ≤ (s.size : Int) := by omega
      have d3 : out.length < 8796093022208 := by omega
      have d4 : ¬ ((s.size : Int) + 1 ≤ (s.size : Int)) := by omega
      refine Ev.shift ?_
      simp only [spec_Split.l0, Int.le_refl, if_true, d1, d2, d3]
      rw [w64 (n := (s.size : Int) + 1) (by omega) (by omega)]
      refine Ev.shift ?_
      simp only [spec_Split.l0, d4, if_false]
      refine Ev.val ?_
      have e1 : s.data.toList.take s.size = s.data.toList := List.take_of_length_le (by omega)
      have e2 : s.data.toList.drop s.size = [] := List.drop_eq_nil_of_le (by omega)
      rw [e1, e2]
      simp only [sp, List.map_cons, List.map_nil]
      congr 2
      have := Lib.extract_to_end s fr
      rw [← this, ba_data]
      rfl
    · intro out fr hf ho
      have hi' : i < s.data.toList.length := by omega
      have d0 : (i : Int) ≤ (s.size : Int) := by omega
      have d1 : ¬ ((i : Int) = (s.size : Int)) := by omega
      have d2 : (0 : Int) ≤ (i : Int) := by omega
      have d3 : (i : Int) < (s.size : Int) := by omega
      have d4 : (0 : Int) ≤ (fr : Int) := by omega
      have d5 : (fr : Int) ≤ (i : Int) := by omega
      have d6 : out.length < 8796093022208 := by omega
      have hb := bt_getElem hi'
      have ht : s.data.toList.drop i = s.data.toList[i] :: s.data.toList.drop (i + 1) := List.drop_eq_getElem_cons hi'
      have hk : s.data.toList.take (i + 1) = s.data.toList.take i ++ [s.data.toList[i]] := List.take_succ_eq_append_getElem hi'
      refine Ev.shift ?_
      simp only [spec_Split.l0, d0, d1, d2, d3, if_true, if_false]
      rw [succ64 hi (by omega), ht]
      by_cases hc : s.data.toList[i] = c
      · have hbc : bt s (i : Int) = (c.toNat : Int) := by rw [hb, hc]
        simp only [hbc, d4, d5, d6, if_true]
        have := ih (out ++ [s.extract (fr : Int).toNat (i : Int).toNat]) (i + 1) (Nat.le_refl _) (by simp; omega)
        refine this.to ?_
        have e0 : (s.data.toList.take (i + 1)).drop (i + 1) = [] := List.drop_eq_nil_of_le (by rw [List.length_take]; omega)
        rw [e0]
        conv => rhs; rw [sp, if_pos hc]
        have e1 : s.extract (fr : Int).toNat (i : Int).toNat = ba ((s.data.toList.take i).drop fr) := by
          rw [← ba_data (s.extract _ _), Lib.extract_data]
          congr 1
          rw [Int.toNat_natCast, Int.toNat_natCast, List.drop_take]
        rw [e1, List.map_cons, List.append_assoc, List.singleton_append]
      · have hbc : ¬ (bt s (i : Int) = (c.toNat : Int)) := by
          rw [hb]
          intro e
          exact hc (UInt8.toNat_inj.mp (by omega))
        simp only [hbc, if_false]
        have := ih out fr (by omega) (by omega)
        refine this.to ?_
        conv => rhs; rw [sp, if_neg hc]
        rw [hk, List.drop_append_of_le_length (by rw [List.length_take]; omega)]
  have := key 0 (Nat.zero_le _) [] 0 (Nat.le_refl _) (Nat.le_refl _)
  simp only [spec_Split.f]
  refine this.to ?_
  simp [parts]
theorem w64_in (n : Int) : i64in (wrap64 n) := by unfold i64in wrap64; omega
theorem z_in : i64in 0 := ⟨by decide, by decide⟩
theorem implNum_loop (x : ByteArray) (hx : x.size ≤ 9223372036854775807) : ∀ i, i ≤ x.size → ∀ n, i64in n → Gets (fun k => impl_Number.l0 k x n (x.size : Int) (i : Int)) (fun r => i64in r.1) := by
  refine back ?_ (fun i hi ih => ?_)
  · intro n hn
    refine Gets.shift ?_
    simp only [impl_Number.l0, Int.lt_irrefl, if_false]
    exact Gets.bindE (impl_Digits_ev n hn.1 hn.2) (Gets.ite (fun _ => Gets.now hn) (fun _ => Gets.now z_in))
  · intro n hn
    have h0 : (0 : Int) ≤ (i : Int) := by omega
    have h1 : (i : Int) < (x.size : Int) := by omega
    refine Gets.shift ?_
    simp only [impl_Number.l0, h0, h1, if_true]
    refine Gets.ite (fun _ => Gets.now z_in) (fun _ => Gets.ite (fun _ => Gets.now z_in) (fun _ => ?_))
    rw [succ64 hi hx]
    exact ih _ (w64_in _)
theorem implNum_j0 (x : ByteArray) (hx : x.size ≤ 9223372036854775807) (b : Bool) : Gets (fun k => impl_Number.j0 k x b) (fun r => i64in r.1) := by
  refine Gets.shift ?_
  simp only [impl_Number.j0]
  exact Gets.ite (fun _ => Gets.now z_in) (fun _ => implNum_loop x hx 0 (Nat.zero_le _) 0 z_in)
theorem implNum_gets (x : ByteArray) (hx : x.size ≤ 9223372036854775807) : Gets (fun k => impl_Number.f k x) (fun r => i64in r.1) := by
  simp only [impl_Number.f]
  exact Gets.ite (fun _ => implNum_j0 x hx _) (fun _ => implNum_j0 x hx _)
theorem specNum_loop (x : ByteArray) (hx : x.size ≤ 9223372036854775807) : ∀ i, i ≤ x.size → ∀ n, i64in n → Gets (fun k => spec_Number.l0 k x n (i : Int)) (fun r => i64in r.1) := by
  refine back ?_ (fun i hi ih => ?_)
  · intro n hn
    refine Gets.shift ?_
    simp only [spec_Number.l0, Int.lt_irrefl, if_false]
    exact Gets.bindE (spec_Digits_ev n hn.1 hn.2) (Gets.ite (fun _ => Gets.now hn) (fun _ => Gets.now z_in))
  · intro n hn
    have h0 : (0 : Int) ≤ (i : Int) := by omega
    have h1 : (i : Int) < (x.size : Int) := by omega
    refine Gets.shift ?_
    simp only [spec_Number.l0, h0, h1, if_true]
    refine Gets.ite (fun _ => Gets.now z_in) (fun _ => Gets.ite (fun _ => Gets.now z_in) (fun _ => ?_))
    rw [succ64 hi hx]
    exact ih _ (w64_in _)
theorem specNum_j0 (x : ByteArray) (hx : x.size ≤ 9223372036854775807) (b : Bool) : Gets (fun k => spec_Number.j0 k x b) (fun r => i64in r.1) := by
  refine Gets.shift ?_
  simp only [spec_Number.j0]
  exact Gets.ite (fun _ => Gets.now z_in) (fun _ => specNum_loop x hx 0 (Nat.zero_le _) 0 z_in)
theorem specNum_gets (x : ByteArray) (hx : x.size ≤ 9223372036854775807) : Gets (fun k => spec_Number.f k x) (fun r => i64in r.1) := by
  simp only [spec_Number.f]
  exact Gets.ite (fun _ => specNum_j0 x hx _) (fun _ => specNum_j0 x hx _)
abbrev oR := Int × Int × Int × Bool
def sound (s : ByteArray) (r : oR) : Prop := (r.2.2.2 = true → opOk r.1 r.2.1 r.2.2.1 = true ∧ optext r.1 r.2.1 r.2.2.1 = s ∧ i64in r.2.1 ∧ i64in r.2.2.1) ∧ (r.2.2.2 = false → r = (0, 0, 0, false))
theorem sound_no (s : ByteArray) : sound s (0, 0, 0, false) := ⟨fun h => (by cases h), fun _ => rfl⟩
theorem sound_yes {s : ByteArray} {a b c : Int} (h : opOk a b c = true) (e : (optext a b c).toList = s.toList) (hb : i64in b) (hc : i64in c) : sound s (a, b, c, true) := ⟨fun _ => ⟨h, ba_of_toList e, hb, hc⟩, fun h => (by cases h)⟩
theorem implOp_j4 (s : ByteArray) (a b c : Int) (hb : i64in b) (hc : i64in c) : Gets (fun k => impl_OpOf.j4 k s a b c) (sound s) := by
  refine Gets.shift ?_
  simp only [impl_OpOf.j4]
  refine Gets.bindE (impl_OpOk_ev a b c) ?_
  exact Gets.ite (fun h => Gets.bindE (impl_OpText_ev a b c hb hc) (Gets.ite (fun e => Gets.now (sound_yes h e hb hc)) (fun _ => Gets.now (sound_no s)))) (fun _ => Gets.now (sound_no s))
theorem implOp_j3 (s : ByteArray) (W : List ByteArray) (hW : ∀ i, (rdOf ByteArray.empty W i).size ≤ 9223372036854775807) (n : Int) (f : Bool) (a b c : Int) (hn : 0 ≤ n) (hf : f = true → n < (W.length : Int)) (hb : i64in b) (hc : i64in c) : Gets (fun k => impl_OpOf.j3 k s W n f a b c) (sound s) := by
  refine Gets.shift ?_
  simp only [impl_OpOf.j3]
  exact Gets.ite (fun h => Gets.pos hn (Gets.pos (hf h) (Gets.bind (implNum_gets _ (hW n)) (fun r hr => implOp_j4 s a b r.1 hb hr)))) (fun _ => implOp_j4 s a b c hb hc)
theorem implOp_j2 (s : ByteArray) (W : List ByteArray) (hW : ∀ i, (rdOf ByteArray.empty W i).size ≤ 9223372036854775807) (v : Bool) (n a b c : Int) (hn : 0 ≤ n) (hb : i64in b) (hc : i64in c) : Gets (fun k => impl_OpOf.j2 k s W v n a b c) (sound s) := by
  refine Gets.shift ?_
  simp only [impl_OpOf.j2]
  exact Gets.ite (fun h => implOp_j3 s W hW n _ a b c hn (fun h => of_decide_eq_true h) hb hc) (fun _ => implOp_j3 s W hW n _ a b c hn (fun h => by cases h) hb hc)
theorem implOp_j1 (s : ByteArray) (W : List ByteArray) (hW : ∀ i, (rdOf ByteArray.empty W i).size ≤ 9223372036854775807) (v f : Bool) (a b c : Int) (hf : f = true → 1 < (W.length : Int)) (hb : i64in b) (hc : i64in c) : Gets (fun k => impl_OpOf.j1 k s W v 1 f a b c) (sound s) := by
  refine Gets.shift ?_
  simp only [impl_OpOf.j1]
  exact Gets.ite (fun h => Gets.pos (by decide) (Gets.pos (hf h) (Gets.bind (implNum_gets _ (hW 1)) (fun r hr => implOp_j2 s W hW v _ a r.1 c (by unfold wrap64; omega) hr hc)))) (fun _ => implOp_j2 s W hW v 1 a b c (by decide) hb hc)
theorem implOp_loop (s : ByteArray) (W : List ByteArray) (hW : ∀ i, (rdOf ByteArray.empty W i).size ≤ 9223372036854775807) (hl : 0 < W.length) : ∀ i : Nat, i ≤ 11 → 1 ≤ i → Gets (fun k => impl_OpOf.l0 k s W (i : Int)) (sound s) := by
  refine back ?_ (fun i hi ih => ?_)
  · intro _
    refine Gets.shift ?_
    simp only [impl_OpOf.l0]
    exact Gets.neg (by decide) (Gets.now (sound_no s))
  · intro h1
    have d0 : (i : Int) ≤ 10 := by omega
    have d1 : (0 : Int) < (W.length : Int) := by omega
    refine Gets.shift ?_
    simp only [impl_OpOf.l0, d0, d1, if_true, opWord_eq (a := (i : Int)) (by omega) d0, Option.bind_some]
    refine Gets.ite (fun _ => Gets.ite (fun _ => implOp_j1 s W hW _ _ _ 0 0 (fun h => of_decide_eq_true h) z_in z_in) (fun _ => implOp_j1 s W hW _ _ _ 0 0 (fun h => by cases h) z_in z_in)) (fun _ => ?_)
    rw [succ64 (i := i) (n := 11) hi (by decide)]
    exact ih (by omega)
theorem specOp_j2 (s : ByteArray) (W : List ByteArray) (i a b c : Int) (hb : i64in b) (hc : i64in c) (next : Gets (fun k => spec_OpOf.l0 k s W opNames (wrap64 (i + 1))) (sound s)) : Gets (fun k => spec_OpOf.j2 k s W opNames i a b c) (sound s) := by
  refine Gets.shift ?_
  simp only [spec_OpOf.j2]
  refine Gets.bindE (spec_OpOk_ev a b c) ?_
  exact Gets.ite (fun h => Gets.bindE (spec_OpText_ev a b c hb hc) (Gets.ite (fun e => Gets.now (sound_yes h e hb hc)) (fun _ => next))) (fun _ => next)
theorem specOp_j1 (s : ByteArray) (W : List ByteArray) (hW : ∀ i, (rdOf ByteArray.empty W i).size ≤ 9223372036854775807) (i a b c : Int) (hb : i64in b) (hc : i64in c) (next : Gets (fun k => spec_OpOf.l0 k s W opNames (wrap64 (i + 1))) (sound s)) : Gets (fun k => spec_OpOf.j1 k s W opNames i a b c) (sound s) := by
  refine Gets.shift ?_
  simp only [spec_OpOf.j1]
  exact Gets.ite (fun h => Gets.pos h (Gets.bind (specNum_gets _ (hW 2)) (fun r hr => specOp_j2 s W i a b r.1 hb hr next))) (fun _ => specOp_j2 s W i a b c hb hc next)
theorem specOp_loop (s : ByteArray) (W : List ByteArray) (hW : ∀ i, (rdOf ByteArray.empty W i).size ≤ 9223372036854775807) (hl : 0 < W.length) : ∀ i : Nat, i ≤ 11 → Gets (fun k => spec_OpOf.l0 k s W opNames (i : Int)) (sound s) := by
  refine back ?_ (fun i hi ih => ?_)
  · refine Gets.shift ?_
    simp only [spec_OpOf.l0]
    exact Gets.neg (by decide) (Gets.now (sound_no s))
  · have d0 : (i : Int) < (opNames.length : Int) := by show (i : Int) < ((11 : Nat) : Int); omega
    have d1 : (0 : Int) ≤ (i : Int) := by omega
    have d2 : (0 : Int) < (W.length : Int) := by omega
    have next : Gets (fun k => spec_OpOf.l0 k s W opNames (wrap64 ((i : Int) + 1))) (sound s) := by rw [succ64 (i := i) (n := 11) hi (by decide)]; exact ih
    refine Gets.shift ?_
    simp only [spec_OpOf.l0, d0, d1, d2, if_true]
    refine Gets.ite (fun _ => Gets.ite (fun h => Gets.pos h (Gets.bind (specNum_gets _ (hW 1)) (fun r hr => ?_))) (fun _ => specOp_j1 s W hW _ _ 0 0 z_in z_in next)) (fun _ => next)
    have hkey : spec_l4Key.f (i : Int) = some (decide (1 ≤ (i : Int) ∧ (i : Int) ≤ 4)) := by simp only [spec_l4Key.f, specIn_eq, Option.bind_some]
    simp only [hkey, Option.bind_some]
    exact Gets.ite (fun _ => specOp_j1 s W hW _ _ _ 0 hr z_in next) (fun _ => Gets.ite (fun _ => specOp_j1 s W hW _ _ _ 0 hr z_in next) (fun _ => specOp_j1 s W hW _ _ 0 _ z_in hr next))
theorem implOf_gets (s : ByteArray) (hs : s.size ≤ 1048576) : Gets (fun k => impl_OpOf.f k s) (sound s) := by
  simp only [impl_OpOf.f, impl_Split_eq s 32 32 rfl hs, Option.bind_some]
  exact implOp_loop s (parts 32 s) (fun i => by have := parts_rd 32 s i; omega) (parts_ne 32 s) 1 (by decide) (by decide)
theorem specOf_gets (s : ByteArray) (hs : s.size ≤ 1048576) : Gets (fun k => spec_OpOf.f k s) (sound s) := by
  simp only [spec_OpOf.f]
  refine Gets.bindE (spec_Split_ev s 32 hs) ?_
  have hl : spec_l14Names.f = some opNames := rfl
  simp only [hl, Option.bind_some]
  exact specOp_loop s (parts 32 s) (fun i => by have := parts_rd 32 s i; omega) (parts_ne 32 s) 1 (by decide)
def dg1 (n : Nat) : ByteArray := ⟨#[UInt8.ofNat (48 + n)]⟩
def txt1 (a b c : Nat) : ByteArray := (if hasV (a : Int) = true then (if hasK (a : Int) = true then opName a ++ (sp1 ++ dg1 b) else opName a) ++ (sp1 ++ dg1 c) else (if hasK (a : Int) = true then opName a ++ (sp1 ++ dg1 b) else opName a))
def one1 (a b c : Nat) : Bool := !(opOk a b c) || (decide (impl_OpOf.f 40 (txt1 a b c) = some ((a : Int), (b : Int), (c : Int), true)) && decide (spec_OpOf.f 40 (txt1 a b c) = some ((a : Int), (b : Int), (c : Int), true)))
def all1 : Bool := (List.range 11).all fun a => (List.range 4).all fun b => (List.range 7).all fun c => one1 a b c
set_option maxRecDepth 100000 in
theorem all1_true : all1 = true := by decide +kernel
theorem opOk_small {a b c : Int} (h : opOk a b c = true) : 1 ≤ a ∧ a ≤ 10 ∧ 0 ≤ b ∧ b ≤ 3 ∧ 0 ≤ c ∧ c ≤ 6 := by
  have hk := opOk_kind h
  have : a = 1 ∨ a = 2 ∨ a = 3 ∨ a = 4 ∨ a = 5 ∨ a = 6 ∨ a = 7 ∨ a = 8 ∨ a = 9 ∨ a = 10 := by omega
  rcases this with rfl | rfl | rfl | rfl | rfl | rfl | rfl | rfl | rfl | rfl <;> simp [opOk, keyB, valB, clsB] at h <;> omega
theorem optext_txt1 {a b c : Nat} (h : opOk a b c = true) : optext a b c = txt1 a b c := by
  have hs := opOk_small h
  have hd : ∀ n : Nat, n < 10 → dstr (n : Int) = dg1 n := by
    intro n hn
    unfold dstr
    rw [if_neg (by omega), Int.natAbs_natCast, dgs_lt hn]
    rfl
  unfold optext txt1 withV withK
  rw [if_pos h, hd b (by omega), hd c (by omega)]
theorem of_text {a b c : Int} (h : opOk a b c = true) : Ev (fun k => impl_OpOf.f k (optext a b c)) (a, b, c, true) ∧ Ev (fun k => spec_OpOf.f k (optext a b c)) (a, b, c, true) := by
  have hs := opOk_small h
  obtain ⟨m, rfl⟩ : ∃ m : Nat, a = (m : Int) := ⟨a.toNat, by omega⟩
  obtain ⟨n, rfl⟩ : ∃ n : Nat, b = (n : Int) := ⟨b.toNat, by omega⟩
  obtain ⟨p, rfl⟩ : ∃ p : Nat, c = (p : Int) := ⟨c.toNat, by omega⟩
  have h1 : one1 m n p = true := by
    have := all1_true
    unfold all1 at this
    rw [List.all_eq_true] at this
    have := this m (List.mem_range.mpr (by omega))
    rw [List.all_eq_true] at this
    have := this n (List.mem_range.mpr (by omega))
    rw [List.all_eq_true] at this
    exact this p (List.mem_range.mpr (by omega))
  unfold one1 at h1
  rw [h, Bool.not_true, Bool.false_or, Bool.and_eq_true] at h1
  rw [optext_txt1 h]
  exact ⟨Ev.of (fun k => impl_OpOf.mono _ k) (of_decide_eq_true h1.1), Ev.of (fun k => spec_OpOf.mono _ k) (of_decide_eq_true h1.2)⟩
theorem opOf_both (s : ByteArray) (hs : s.size ≤ 1048576) : ∃ r, Ev (fun k => impl_OpOf.f k s) r ∧ Ev (fun k => spec_OpOf.f k s) r ∧ sound s r := by
  obtain ⟨r, hr, pr⟩ := implOf_gets s hs
  obtain ⟨q, hq, pq⟩ := specOf_gets s hs
  suffices e : r = q by subst e; exact ⟨r, hr, hq, pr⟩
  obtain ⟨a, b, c, d⟩ := r
  obtain ⟨a2, b2, c2, d2⟩ := q
  cases d with
  | true =>
    obtain ⟨h1, h2, _⟩ := pr.1 rfl
    have := (of_text h1).2
    rw [h2] at this
    exact (Ev.det hq this).symm
  | false =>
    have e1 := pr.2 rfl
    cases d2 with
    | true =>
      obtain ⟨h1, h2, _⟩ := pq.1 rfl
      have := (of_text h1).1
      rw [h2] at this
      exact Ev.det hr this
    | false => rw [e1, pq.2 rfl]
theorem pureFnExactOpOf : PureFnExactOpOf := by
  intro x _
  refine Ev.rounds ?_
  simp only [laws_FnExactOpOf.f]
  by_cases hbig : (x.size : Int) > 1048576
  · exact Ev.pos hbig (Ev.now _)
  refine Ev.neg hbig ?_
  obtain ⟨r, hr, hq, _⟩ := opOf_both x (by omega)
  refine Ev.bind hq (Ev.bind hr ?_)
  simp only [laws_eqOp.f, if_true, Option.bind_some, bne_self_eq_false, Bool.false_eq_true, if_false]
  exact Ev.now _
end Go.Proofs.YtafcfhgdblefgaaDoor.P
namespace Go.Proofs.YtafcfhgdblefgaaDoor.fnExactOpOf
open Go.ChangeShapes Go.WideShapes Go.ChangeAt Go.RowKit Go.Proofs.YtafcfhgdblefgaaDoorW.PrintWords Go.Proofs.YtafcfhgdblefgaaDoorW.PrintLast Go.Proofs.YtafcfhgdblefgaaDoorZ Go.Proofs.YtafcfhgdblefgaaDoor.P
open Go.ChangeMaps (open_string shut_string)
theorem own : ownKnob Tryd.prog.godebug = none := by kernel_rfl
set_option maxRecDepth 100000 in
theorem contract (H : Type) (enc : TypeId × Value → H) (W : World) (base : Nat) (args : Array Value) (ds gs : List (DataW H)) (before : List MemPlace)
    (hval0 : ∀ (j : Nat) t v, Tryd.f3.params[j]? = some t → args[j]? = some v → Value.okWide Tryd.prog W .any base t v)
    (hW : DataW.Whole enc Tryd.prog Tryd.f3.params.toList Rows.fnExactOpOfSpec.vars false W args.toList ds gs before) :
    Calls Tryd.prog 3 args W fun e W' => ∃ v, e = .returned v ∧ Rows.fnExactOpOfSpec.post enc Tryd.prog Tryd.f3 false true false false W args v W' := by
  have hval : ∀ (j : Nat) t v, Tryd.f3.params[j]? = some t → args[j]? = some v → Value.okWide Tryd.prog W .any base t v := hval0
  have hW' := hW
  obtain ⟨p, q, hA0, hV, rfl, hfz, hnd⟩ := hW
  have hA : DataW.TrodAll enc Tryd.prog W 0 (fun _ => true) true Tryd.f3.params.toList args.toList ds p := hA0
  rw [Tryd.params3] at hA hval
  obtain ⟨v0, vs0, d0, ds0, p0, q0, hargs, rfl, rfl, h0, r0⟩ := trodAll_cons hA
  obtain ⟨rfl, rfl, rfl⟩ := trodAll_nil r0
  obtain rfl : args = #[v0] := by cases args; simp_all
  obtain ⟨rfl, rfl⟩ := trodVars_none hV
  obtain ⟨x0, rfl, rfl, rfl, y0⟩ := open_string Tryd.underlying9 (hval 0 9 v0 rfl rfl) h0
  have w0 : x0.size ≤ 9223372036854775807 := by have := y0; simp only [maxLen] at this; omega
  obtain ⟨k, hk⟩ := pureFnExactOpOf x0 w0
  clear hA0 hval0
  refine (laws_FnExactOpOf.calls k x0 true W  hk).mono fun e W' hh => ?_
  obtain ⟨he, bel0⟩ := hh
  have bel : Below W.heap.size W W' := bel0
  subst he
  exact ⟨_, rfl, _, _, _, [], _, [], hW', trodAll_mk1 (shut_bool Tryd.underlying4 _), (trodAll_cons_mk (shut_string Tryd.underlying9 y0) trodAll_mk0), rfl, bel.frame _, fun h => by cases h⟩
def holds (cs : Array Value) : Obj → Obj
  | .cells _ t frozen => .cells cs t frozen
  | o => o
noncomputable def laidWorld (os : Os) : World :=
  let w := World.holding Tryd.prog os ⟨#[], #[], []⟩
  let first : List Nat := Go.Pinned.utf8FirstZ
  let ranges : List Nat := [128, 191, 160, 191, 128, 159, 144, 191, 128, 143, 0, 0, 0, 0, 0, 0, 0, 0, 0, 0, 0, 0, 0, 0, 0, 0, 0, 0, 0, 0, 0, 0]
  { w with heap := (w.heap.modify 1 (holds (first.map fun (n : Nat) => Value.int .u8 (n : Int)).toArray)).modify 2 (holds (ranges.map fun (n : Nat) => Value.int .u8 (n : Int)).toArray) }
set_option maxRecDepth 100000 in
theorem laid_met (os : Os) : laidMet Tryd.prog Rows.fnExactOpOfRow.laid ((laidWorld os).forCall (fun _ _ => 0) ⟨#[], #[.string ByteArray.empty], []⟩).memory :=
  laidMet_of_run' 8 (by kernel_rfl) (by kernel_rfl)
theorem reads (os : Os) {H : Type} (enc : TypeId × Value → H) : ∃ places, DataW.whole enc Tryd.prog ((laidWorld os).forCall (fun _ _ => 0) ⟨#[], #[.string ByteArray.empty], []⟩).memory Tryd.f3.params.toList Rows.fnExactOpOfSpec.vars false (#[.string ByteArray.empty] : Array Value).toList 8 = some ([.lit (.string [])], [], places) :=
  ⟨[], by kernel_rfl⟩
set_option maxRecDepth 100000 in
theorem lifted (os : Os) (started : os.Started) (H : Type) (enc : TypeId × Value → H) (F : Stop.Interp) :
    ReturnsInHanded {} Tryd.checked os 3 .any ((OpenSpec.ofChange Rows.fnExactOpOfSpec).preRow enc Tryd.prog Tryd.f3 Rows.fnExactOpOfRow.domain false Rows.fnExactOpOfRow.laid) (((OpenSpec.ofChange Rows.fnExactOpOfSpec).at F).post enc Tryd.prog Tryd.f3 false true false false) := by
  obtain ⟨places, hx⟩ := reads os enc
  refine returnsInHanded_of_row (C := Tryd.checked) (s := OpenSpec.ofChange Rows.fnExactOpOfSpec) own started (by kernel_rfl) Tryd.func3
    (witness_row_at (enc := enc) (C := Tryd.checked) false (laidWorld os) #[.string ByteArray.empty] rfl (by kernel_rfl) (by kernel_rfl) (by kernel_rfl)
      (OpenSpec.preRow_of_cond 8 hx (by kernel_rfl) (fun k hk => by cases hk) (by kernel_rfl) (laid_met os))) ?_
  intro W base args ds gs before hval hW _ _ _ _ _ _
  exact contract H enc W base args ds gs before hval hW
theorem said : Rows.FnExactOpOfSaid :=
  OpenClaim.holds_of_cond 3 Tryd.f3 rfl rfl rfl rfl rfl rfl rfl ⟨rfl, rfl, rfl, rfl, rfl⟩ rfl rfl rfl rfl rfl (by kernel_rfl) Tryd.func3 (by kernel_rfl)
    (of_decide_eq_true (by kernel_rfl)) (by unfold Func.isWrapper; first | (rw [if_pos (by decide +kernel)]; kernel_rfl) | (rw [if_neg (by decide +kernel)]; exact ⟨rfl, rfl⟩))
    (fun os started H enc _ F => by rw [OpenClaim.pre_eq_preRow]; exact lifted os started H enc F)
theorem plain (f : FuncId) (fn : Func) (hf : Tryd.pinned.checked.prog.funcNamed "loop.example/g00468/laws.FnExactOpOf" = some f) (hfn : Tryd.pinned.checked.prog.funcs[f]? = some fn) :
    false = Tryd.pinned.checked.prog.looks [] ∧ ∀ (j : Nat) t, fn.params[j]? = some t → Tryd.pinned.checked.prog.wantsStandIn t = false := by
  obtain rfl : f = 3 := Option.some.inj ((show Tryd.prog.funcNamed "loop.example/g00468/laws.FnExactOpOf" = some 3 by kernel_rfl).symm.trans hf) |>.symm
  obtain rfl : fn = Tryd.f3 := (Option.some.inj (Tryd.func3.symm.trans hfn)).symm
  refine ⟨by kernel_rfl, fun j t ht => ?_⟩
  rw [Tryd.params3] at ht
  obtain rfl : t = 9 := by simpa using Array.mem_of_getElem? ht
  exact (show Tryd.prog.wantsStandIn 9 = false by kernel_rfl)
theorem card : Rows.FnExactOpOfCardSaid :=
  Claim7.holds_tied_plain_at .later [] _ _ _ _ said (fun _ h => by cases h) (by kernel_rfl) (fun _ h => by cases h) fnExactOpOf_row_tie rfl ⟨rfl, rfl⟩ (by kernel_rfl) rfl plain (by kernel_rfl)
#print axioms card
end Go.Proofs.YtafcfhgdblefgaaDoor.fnExactOpOf
namespace Go.Proofs.YtafcfhgdblefgaaDoor
theorem fnExactOpOf_holds : Rows.FnExactOpOfCardSaid := fnExactOpOf.card
end Go.Proofs.YtafcfhgdblefgaaDoor
