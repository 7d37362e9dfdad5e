/- The law FnValues holds: for every input the call returns true, and each argument reads afterwards as_ it read before. Conditions: none. Written by a program of this session. -/
import Derived.OpenShut
import Derived.DataElems
import Derived.DataReads
import Derived.Laws.BitsLemmas
import Derived.Test.YtcedikpkbgofhaaRows
import Derived.WalkKit
import Derived.ProofKit
import Derived.ShutString
import Derived.ChangeOld
import Derived.Below
import Derived.SizedLaws
import Derived.Carry
import Derived.Test.YtcedikpkbgofhaaP2kFnValues1
namespace Go.Proofs.Ytcedikpkbgofhaa.P2
open Go.Proofs.YtcedikpkbgofhaaZ Go.RowKit Go.Proofs.YtcedikpkbgofhaaW.PrintWords Go.Proofs.YtcedikpkbgofhaaW.PrintLast Go.Proofs.YtcedikpkbgofhaaW.PrintMore
attribute [local go_sem] max2_int min2_int max_two min_two max_three min_three max_four min_four   -- for this text's walks alone
set_option linter.unusedVariables false
set_option linter.unusedSimpArgs false
mutual
def impl_Digits.j0 : Nat → Int → Bool → Option (ByteArray)
  | 0, _, _ => none
  | k + 1, x0, x3 => if x3 = true then ((impl_Digits.f k (wrap64 (-x0))).bind fun t101 => (if 1 + t101.size ≤ 9223372036854775807 then (some ((⟨#[45]⟩ : ByteArray) ++ t101)) else (none))) else (if x0 < 0 then ((impl_Digits.f k (wrap64 (Int.tdiv x0 10))).bind fun t102 => ((impl_Digits.f k (wrap64 (-(Int.tmod x0 10)))).bind fun t103 => (if t102.size + t103.size ≤ 9223372036854775807 then (some (t102 ++ t103)) else (none)))) else (if x0 < 10 then (some (Go.Utf8.encode (wrap32 (wrap64 (48 + x0))))) else ((impl_Digits.f k (wrap64 (Int.tdiv x0 10))).bind fun t104 => (if t104.size + (Go.Utf8.encode (wrap32 (wrap64 (48 + (Int.tmod x0 10))))).size ≤ 9223372036854775807 then (some (t104 ++ (Go.Utf8.encode (wrap32 (wrap64 (48 + (Int.tmod x0 10))))))) else (none)))))
def impl_Digits.f : Nat → Int → Option (ByteArray)
  | 0, _ => none
  | k + 1, a0 => if a0 < 0 then (impl_Digits.j0 k a0 (decide (a0 > (-10)))) else (impl_Digits.j0 k a0 false)
end
set_option maxHeartbeats 8000000 in
set_option maxRecDepth 100000 in
theorem impl_Digits.calls (k : Nat) : ∀ (a0 : Int) (r : ByteArray) (w : World) (h : impl_Digits.f k a0 = some r),
    Calls Try.prog 60 #[.int .i64 a0] w fun e w' => e = .returned (.string r) ∧ Drawn0 w w' := by
  induction k using Nat.strongRecOn with
  | _ k ih =>
  intro a0 r w h
  cases k with
  | zero => exact absurd h (by simp [impl_Digits.f])
  | succ k =>
  simp only [impl_Digits.f] at h
  have H := h
  unfold impl_Digits.f at H
  clear h
  have HCz1 := aM H
  clear H
  go_enter Try.func60, Try.ntmps60
  go_upto_region 1 with (fail)
  go_cut [3] (fun vz1 wc => ∃ (kq : Nat) (x3_1 : Bool), vz1 = .bool x3_1 ∧ Aside0 (impl_Digits.j0 kq a0 x3_1 = some r) ∧ Aside0 (kq ≤ k) ∧ Drawn0 w wc)
  case first =>
    have H := HCz1.out
    clear HCz1
    by_cases c3 : a0 < 0
    case neg =>
      rw [if_neg c3] at H
      have c3b0 := decide_eq_false c3
      clear c3
      (first | rw [c3b0] | (simp only [i64_w, i32_w]; rw [c3b0]) | skip)
      have H' := aM H
      clear H
      go_wp2
      go_meet
      case rel => exact ⟨_, (false), rS, H', ⟨by first | omega | exact Nat.le_refl _⟩, dX⟩
    rw [if_pos c3] at H
    have c3b0 := decide_eq_true c3
    clear c3
    (first | rw [c3b0] | (simp only [i64_w, i32_w]; rw [c3b0]) | skip)
    have H' := aM H
    clear H
    go_wp2
    go_meet
    case rel => exact ⟨_, (decide (a0 > (-10))), rS, H', ⟨by first | omega | exact Nat.le_refl _⟩, dX⟩
  case rest =>
    clear HCz1
    try clear p2
    obtain ⟨kq, x3_1, rfl, HA, HJy1, ⟨mcy1, rfl⟩⟩ := hcut
    cases kq with
    | zero => exact absurd HA.out (by simp [impl_Digits.j0])
    | succ kj1 =>
      have H := HA.out
      clear HA
      simp only [impl_Digits.j0] at H
      by_cases c4 : x3_1 = true
      · subst c4
        rw [if_pos rfl] at H
        replace H := bE H; obtain ⟨t101, A5, H⟩ := H
        replace H := ifP H; obtain ⟨c6, H⟩ := H
        have c6b0 := eq_true c6
        have c6b1 := decide_eq_true c6
        try have c6b2 : (9223372036854775807 < 1 + t101.size) = False := eq_false (Nat.not_lt.2 c6)
        obtain rfl := sI H
        go_wp2_with (first | (refine goesM 60 12 Try.func60 #[.int .i64 (wrap64 (-a0))] ?_; refine (ih kj1 (by have := HJy1.out; omega) (wrap64 (-a0)) t101 _ A5.out).mono ?_; rintro e w' ⟨rfl, ⟨nd, rfl⟩⟩; refine ⟨_, rfl, ?_⟩))
        go_ret
        exact ⟨by first | rfl | (simp; done) | (simp [*]; done), dX⟩
      replace c4 := Bool.eq_false_iff.mpr c4
      subst c4
      rw [if_neg nft] at H
      by_cases c7 : a0 < 0
      · rw [if_pos c7] at H
        have c7b0 := decide_eq_true c7
        clear c7
        replace H := bE H; obtain ⟨t102, A8, H⟩ := H
        replace H := bE H; obtain ⟨t103, A9, H⟩ := H
        replace H := ifP H; obtain ⟨c10, H⟩ := H
        have c10b0 := eq_true c10
        have c10b1 := decide_eq_true c10
        try have c10b2 : (9223372036854775807 < t102.size + t103.size) = False := eq_false (Nat.not_lt.2 c10)
        obtain rfl := sI H
        go_wp2_with (first | ((with_reducible refine gate_callee (f := 60) rfl ?_); refine goesM 60 19 Try.func60 #[.int .i64 (wrap64 (Int.tdiv a0 10))] ?_; refine (ih kj1 (by have := HJy1.out; omega) (wrap64 (Int.tdiv a0 10)) t102 _ A8.out).mono ?_; rintro e w' ⟨rfl, ⟨nd, rfl⟩⟩; refine ⟨_, rfl, ?_⟩) | ((with_reducible refine gate_callee (f := 60) rfl ?_); refine goesM 60 23 Try.func60 #[.int .i64 (wrap64 (-(Int.tmod a0 10)))] ?_; refine (ih kj1 (by have := HJy1.out; omega) (wrap64 (-(Int.tmod a0 10))) t103 _ A9.out).mono ?_; rintro e w' ⟨rfl, ⟨nd, rfl⟩⟩; refine ⟨_, rfl, ?_⟩))
        go_ret
        exact ⟨by first | rfl | (simp; done) | (simp [*]; done), dX⟩
      rw [if_neg c7] at H
      have c7b0 := decide_eq_false c7
      clear c7
      by_cases c11 : a0 < 10
      · rw [if_pos c11] at H
        have c11b0 := decide_eq_true c11
        clear c11
        obtain rfl := sI H
        go_wp2
        go_ret
        exact ⟨by first | rfl | (simp; done) | (simp [*]; done), dX⟩
      rw [if_neg c11] at H
      have c11b0 := decide_eq_false c11
      clear c11
      replace H := bE H; obtain ⟨t104, A12, H⟩ := H
      replace H := ifP H; obtain ⟨c13, H⟩ := H
      have c13b0 := eq_true c13
      have c13b1 := decide_eq_true c13
      try have c13b2 : (9223372036854775807 < t104.size + (Go.Utf8.encode (wrap32 (wrap64 (48 + (Int.tmod a0 10))))).size) = False := eq_false (Nat.not_lt.2 c13)
      obtain rfl := sI H
      go_wp2_with (first | (refine goesM 60 34 Try.func60 #[.int .i64 (wrap64 (Int.tdiv a0 10))] ?_; refine (ih kj1 (by have := HJy1.out; omega) (wrap64 (Int.tdiv a0 10)) t104 _ A12.out).mono ?_; rintro e w' ⟨rfl, ⟨nd, rfl⟩⟩; refine ⟨_, rfl, ?_⟩))
      go_ret
      exact ⟨by first | rfl | (simp; done) | (simp [*]; done), dX⟩
mutual
def impl_ValueText.j0 : Nat → Bool → Int → Int → ByteArray → Option (ByteArray)
  | 0, _, _, _, _ => none
  | k + 1, x20, x102000, x102001, x102002 => if x20 = true then (some (⟨#[110, 111]⟩ : ByteArray)) else (if x102000 = 1 then (some (⟨#[121, 101, 115]⟩ : ByteArray)) else (impl_ValueText.l0 k (([34] : List Int)) (x102002.size : Int) 0 x102000 x102001 x102002))
def impl_ValueText.l0 : Nat → List Int → Int → Int → Int → Int → ByteArray → Option (ByteArray)
  | 0, _, _, _, _, _, _ => none
  | k + 1, x3, x36, x37, x102000, x102001, x102002 => if x37 < x36 then (if 0 ≤ x37 then (if x37 < (x102002.size : Int) then (if 0 ≤ ((bt x102002 x37) / 16) then (if ((bt x102002 x37) / 16) < 16 then (if 0 ≤ (Go.bits .and .u8 (bt x102002 x37) 15) then (if (Go.bits .and .u8 (bt x102002 x37) 15) < 16 then ((some (([bt (⟨#[48, 49, 50, 51, 52, 53, 54, 55, 56, 57, 97, 98, 99, 100, 101, 102]⟩ : ByteArray) ((bt x102002 x37) / 16), bt (⟨#[48, 49, 50, 51, 52, 53, 54, 55, 56, 57, 97, 98, 99, 100, 101, 102]⟩ : ByteArray) (Go.bits .and .u8 (bt x102002 x37) 15)] : List Int) : List Int)).bind fun y107 => (if x3.length + y107.length < 140737488355328 then (impl_ValueText.l0 k (x3 ++ y107) x36 (wrap64 (x37 + 1)) x102000 x102001 x102002) else (none))) else (none)) else (none)) else (none)) else (none)) else (none)) else (none)) else (some (strOfNums x3))
end
def impl_ValueText.f (k : Nat) (a0_0 : Int) (a0_1 : Int) (a0_2 : ByteArray) : Option (ByteArray) := (impl_ValueOk.f a0_0 a0_1 a0_2).bind fun t102 => (if t102 = true then (if a0_0 = 0 then (some (⟨#[110, 117, 108, 108]⟩ : ByteArray)) else (if a0_0 = 2 then ((impl_Digits.f k a0_1).bind fun t103 => (some t103)) else (if a0_0 = 1 then (impl_ValueText.j0 k (a0_1 == 0) a0_0 a0_1 a0_2) else (impl_ValueText.j0 k false a0_0 a0_1 a0_2)))) else (some (⟨#[98, 97, 100]⟩ : ByteArray)))
def impl_ValueText.T15 : Bool × List (List Nat × List Nat) := (true, [([], []), ([], []), ([1], [1]), ([], []), ([2, 3], [2, 3]), ([4], [4]), ([5], [5]), ([], []), ([7], [7]), ([], []), ([8, 9], [8, 9]), ([10], [10]), ([11], [11]), ([6, 12], [6, 12]), ([0, 13], [0, 13]), ([14, 14, 0, 1, 2, 3, 4, 5, 6, 7, 8, 9, 10, 11, 12, 13, 14], [0, 14])])
def impl_ValueText.B15 : List Nat := [0, 0, 2, 0, 14, 30, 62, 0, 128, 0, 896, 1920, 3968, 8190, 16383, 32767]
theorem impl_ValueText.tab15 : rtab .any (opsOf Try.f32 15) = impl_ValueText.T15 := by kernel_rfl
theorem impl_ValueText.bits15 : waitsOk impl_ValueText.T15.2 impl_ValueText.B15 = true := by kernel_rfl
set_option maxHeartbeats 8000000 in
set_option maxRecDepth 100000 in
theorem impl_ValueText.calls (k : Nat) (a0_0 : Int) (a0_1 : Int) (a0_2 : ByteArray) (r : ByteArray) (w : World) (h : impl_ValueText.f k a0_0 a0_1 a0_2 = some r) :
    Calls Try.prog 32 #[.agg #[.int .i64 a0_0, .int .i64 a0_1, .string a0_2]] w fun e w' => e = .returned (.string r) ∧ Below w.heap.size w w' := by
  have hu37 := Try.underlying37
  have HB := aM (Below.refl w.heap.size w)
  have H := h
  unfold impl_ValueText.f at H
  clear h
  replace H := bE H; obtain ⟨t102, A2, H⟩ := H
  go_enter Try.func32, Try.ntmps32
  go_wp2_with (first | ((with_reducible refine gate_dst (N := 1) rfl ?_); refine boxE 1 #[.int .i64 a0_0, .int .i64 a0_1, .string a0_2] 37 ?_; intro gbz1 hg wz1 hbox hb; have BKz1 := aM (hbox); have GWz1 := aG hg HB; have GEz1 := aG hg HB; replace HB := aS HB hb; clear hb hbox hg; obtain ⟨hczz1, hczz2, hczz3, hfzz1, hfzz2, hfzz3⟩ := cZ3 BKz1.out; refine Stop.out ?_))
  refine ⟨?_⟩
  by_cases c3 : t102 = true
  case neg =>
    replace c3 := Bool.eq_false_iff.mpr c3
    subst c3
    rw [if_neg nft] at H
    obtain rfl := sI H
    go_wp2_with (first | ((with_reducible refine gate_callee (f := 30) rfl ?_); refine goesM 30 7 Try.func30 #[.agg #[.int .i64 a0_0, .int .i64 a0_1, .string a0_2]] ?_; refine (impl_ValueOk.calls _ _ _ _ _ A2.out).mono ?_; rintro e wz2 ⟨rfl, hb⟩; refine ⟨_, rfl, ?_⟩; replace BKz1 := aB BKz1 hb; replace HB := aS HB hb; clear hb))
    go_ret
    exact ⟨rE, (hX HB.out)⟩
  subst c3
  rw [if_pos rfl] at H
  go_wp2_with (first | ((with_reducible refine gate_callee (f := 30) rfl ?_); refine goesM 30 7 Try.func30 #[.agg #[.int .i64 a0_0, .int .i64 a0_1, .string a0_2]] ?_; refine (impl_ValueOk.calls _ _ _ _ _ A2.out).mono ?_; rintro e wz2 ⟨rfl, hb⟩; refine ⟨_, rfl, ?_⟩; replace BKz1 := aB BKz1 hb; replace HB := aS HB hb; clear hb; obtain ⟨hczz4, hczz5, hczz6, hfzz4, hfzz5, hfzz6⟩ := cZ3 BKz1.out; refine Stop.out ?_))
  refine ⟨?_⟩
  by_cases c4 : a0_0 = 0
  · rw [if_pos c4] at H
    obtain ⟨c4b0, c4b1⟩ := eqT c4
    clear c4
    obtain rfl := sI H
    go_wp2
    go_ret
    exact ⟨rE, (hX HB.out)⟩
  rw [if_neg c4] at H
  obtain ⟨c4b0, c4b1⟩ := eqF c4
  by_cases c9 : a0_0 = 2
  · rw [if_pos c9] at H
    obtain ⟨c9b0, c9b1⟩ := eqT c9
    clear c9
    replace H := bE H; obtain ⟨t103, A10, H⟩ := H
    obtain rfl := sI H
    go_wp2_with (first | ((with_reducible refine gate_callee (f := 60) rfl ?_); refine goesM 60 19 Try.func60 #[.int .i64 a0_1] ?_; refine (impl_Digits.calls _ _ _ _ A10.out).mono ?_; rintro e w' ⟨rfl, ⟨nd, rfl⟩⟩; refine ⟨_, rfl, ?_⟩))
    go_ret
    exact ⟨rE, (hX HB.out)⟩
  rw [if_neg c9] at H
  obtain ⟨c9b0, c9b1⟩ := eqF c9
  have HC15 := aM H
  clear H
  go_upto_region 7 with (fail)
  (try simp only [Act.put, List.setIfInBounds_toArray, List.set_cons_zero, List.set_cons_succ])
  go_cut [20] (fun vz1 wc => ∃ (kq : Nat) (x20_14 : Bool), vz1 = .bool x20_14 ∧ Aside0 (impl_ValueText.j0 kq x20_14 a0_0 a0_1 a0_2 = some r) ∧ Aside0 (kq ≤ k) ∧ Aside0 (wc.heap[gbz1]? = some (.cells #[.int .i64 a0_0, .int .i64 a0_1, .string a0_2] 37 (0, 0))) ∧ Aside0 (Below w.heap.size w wc))
  case first =>
    have H := HC15.out
    clear HC15
    by_cases c20 : a0_0 = 1
    case neg =>
      rw [if_neg c20] at H
      obtain ⟨c20b0, c20b1⟩ := eqF c20
      (first | rw [c20b0] | (simp only [i64_w, i32_w]; rw [c20b0]) | skip)
      have H' := aM H
      clear H
      obtain ⟨hczy1, hczy2, hczy3, hfzy1, hfzy2, hfzy3⟩ := cZ3 BKz1.out
      go_wp2
      go_meet
      case rel => exact ⟨_, (false), rS, H', ⟨by first | omega | exact Nat.le_refl _⟩, ⟨(bX BKz1.out)⟩, ⟨(hX HB.out)⟩⟩
    rw [if_pos c20] at H
    obtain ⟨c20b0, c20b1⟩ := eqT c20
    clear c20
    (first | rw [c20b0] | (simp only [i64_w, i32_w]; rw [c20b0]) | skip)
    have H' := aM H
    clear H
    obtain ⟨hczy1, hczy2, hczy3, hfzy1, hfzy2, hfzy3⟩ := cZ3 BKz1.out
    go_wp2
    go_meet
    case rel => exact ⟨_, ((a0_1 == 0)), rS, H', ⟨by first | omega | exact Nat.le_refl _⟩, ⟨(bX BKz1.out)⟩, ⟨(hX HB.out)⟩⟩
  case rest =>
    clear HC15
    try clear p2
    try clear c3
    try clear c4
    try clear c4b0
    try clear c4b1
    try clear c9
    try clear c9b0
    try clear c9b1
    try clear hczz1 hczz2 hczz3 hfzz1 hfzz2 hfzz3
    try clear hczz4 hczz5 hczz6 hfzz4 hfzz5 hfzz6
    obtain ⟨kq, x20_14, rfl, HA, HJy1, BKz1, HB⟩ := hcut
    cases kq with
    | zero => exact absurd HA.out (by simp [impl_ValueText.j0])
    | succ kj14 =>
      have H := HA.out
      clear HA
      simp only [impl_ValueText.j0] at H
      by_cases c23 : x20_14 = true
      · subst c23
        rw [if_pos rfl] at H
        obtain rfl := sI H
        go_wp2
        go_ret
        exact ⟨rE, (hX HB.out)⟩
      replace c23 := Bool.eq_false_iff.mpr c23
      subst c23
      rw [if_neg nft] at H
      by_cases c24 : a0_0 = 1
      · rw [if_pos c24] at H
        obtain ⟨c24b0, c24b1⟩ := eqT c24
        clear c24
        obtain rfl := sI H
        obtain ⟨hczx1, hczx2, hczx3, hfzx1, hfzx2, hfzx3⟩ := cZ3 BKz1.out
        go_wp2
        go_ret
        exact ⟨rE, (hX HB.out)⟩
      rw [if_neg c24] at H
      obtain ⟨c24b0, c24b1⟩ := eqF c24
      obtain ⟨y104, hy104⟩ : ∃ y_ : List Int, y_ = (([34] : List Int)) := ⟨_, rfl⟩
      replace H : (impl_ValueText.l0 kj14 y104 (a0_2.size : Int) 0 a0_0 a0_1 a0_2) = some r := yH H hy104
      have Ny104 := aM hy104
      clear hy104
      have H' := aM H
      clear H
      obtain ⟨hczx1, hczx2, hczx3, hfzx1, hfzx2, hfzx3⟩ := cZ3 BKz1.out
      go_wp2_with (first | ((with_reducible refine gate_dst (N := 33) rfl ?_); refine Kd.R_lit (Kd.int .u8) _ 5 ?hg (N := 33) ?hd (xs := ([34] : List Int)) (inner := [.int .u8 34]) (ok := fun _ => True) (okp := fun _ => True) ?hr ?hp (fun _ hk => hk) trivial (Below.refl _ _) (Nat.le_refl _) (by simp) ?_; (case hd => rfl); (case hg => rfl); (case hr => first | (go_simp; done) | (go_simp; rfl)); (case hp => exact (Reps.one (show Kd.M (Kd.int .u8) _ _ _ 34 [.int .u8 34] from rfl) (Reps.none _ _))); intro vx1 wx1 hox1 hb hg_ hnew_; clear hg_ hnew_; (first | rw [← Ny104.out] at hox1 | (simp only [Int.reduceToNat] at hox1; rw [← Ny104.out] at hox1)); have HOx1 := aM (Kd.R_lower hox1 (below_size (hX HB.out))); replace BKz1 := aB BKz1 hb; replace HB := aS HB hb; clear hb hox1; obtain ⟨hczx4, hczx5, hczx6, hfzx4, hfzx5, hfzx6⟩ := cZ3 BKz1.out))
      go_loopg [3, 37] kj14 (fun kq v3 v37 w' => ∃ (x3_2 : List Int) (x37_2 : Int), v37 = .int .i64 x37_2 ∧ Aside0 (impl_ValueText.l0 kq x3_2 (a0_2.size : Int) x37_2 a0_0 a0_1 a0_2 = some r) ∧ Aside0 (kq ≤ kj14) ∧ Aside0 (Kd.R (Kd.int .u8) 5 w' w.heap.size (fun _ => True) v3 x3_2) ∧ Aside0 (w'.heap[gbz1]? = some (.cells #[.int .i64 a0_0, .int .i64 a0_1, .string a0_2] 37 (0, 0))) ∧ Aside0 (Below w.heap.size w w'))
      case atStart => exact ⟨(y104), (0), rS, H', ⟨Nat.le_refl _⟩, ⟨(rX HOx1.out)⟩, ⟨(bX BKz1.out)⟩, ⟨(hX HB.out)⟩⟩
      case round =>
        clear H'
        try clear p2
        try clear c3
        try clear c4
        try clear c4b0
        try clear c4b1
        try clear c9
        try clear c9b0
        try clear c9b1
        try clear c23
        try clear c24
        try clear c24b0
        try clear c24b1
        try clear hczz1 hczz2 hczz3 hfzz1 hfzz2 hfzz3
        try clear hczz4 hczz5 hczz6 hfzz4 hfzz5 hfzz6
        try clear hczx1 hczx2 hczx3 hfzx1 hfzx2 hfzx3
        try clear hczx4 hczx5 hczx6 hfzx4 hfzx5 hfzx6
        obtain ⟨x3_2, x37_2, rfl, HA, HKw1, HO_w1, BKz1, HB⟩ := hrel
        cases gk with
        | zero => exact absurd HA.out (by simp [impl_ValueText.l0])
        | succ k2 =>
          have H := HA.out
          clear HA
          simp only [impl_ValueText.l0] at H
          by_cases c30 : x37_2 < (a0_2.size : Int)
          case neg =>
            rw [if_neg c30] at H
            have c30b0 := decide_eq_false c30
            clear c30
            obtain rfl := sI H
            have hcvv1 := own_string (P := Try.prog) Try.underlying22 Try.underlying5 Try.underlying9 (Kd.own_of_R HO_w1.out)
            go_wp2
            go_ret
            exact ⟨rE, (hX HB.out)⟩
          rw [if_pos c30] at H
          have c30b0 := decide_eq_true c30
          clear c30
          replace H := ifP H; obtain ⟨c31, H⟩ := H
          have c31b0 := decide_eq_true c31
          clear c31
          replace H := ifP H; obtain ⟨c32, H⟩ := H
          have c32b0 := decide_eq_true c32
          clear c32
          obtain ⟨ji34, hji34⟩ : ∃ j_ : Int, ((bt a0_2 x37_2) / 16) = j_ := ⟨_, rfl⟩
          replace H : (if 0 ≤ (ji34) then (if (ji34) < 16 then (if 0 ≤ (Go.bits .and .u8 (bt a0_2 x37_2) 15) then (if (Go.bits .and .u8 (bt a0_2 x37_2) 15) < 16 then ((some (([bt (⟨#[48, 49, 50, 51, 52, 53, 54, 55, 56, 57, 97, 98, 99, 100, 101, 102]⟩ : ByteArray) (ji34), bt (⟨#[48, 49, 50, 51, 52, 53, 54, 55, 56, 57, 97, 98, 99, 100, 101, 102]⟩ : ByteArray) (Go.bits .and .u8 (bt a0_2 x37_2) 15)] : List Int) : List Int)).bind fun y107 => (if x3_2.length + y107.length < 140737488355328 then (impl_ValueText.l0 k2 (x3_2 ++ y107) (a0_2.size : Int) (wrap64 (x37_2 + 1)) a0_0 a0_1 a0_2) else (none))) else (none)) else (none)) else (none)) else (none)) = some r := by first | (rw [hji34] at H; exact H) | (simp only [hji34] at H ⊢; exact H)
          replace H := ifP H; obtain ⟨c35, H⟩ := H
          have c35b0 := decide_eq_true c35
          clear c35
          replace H := ifP H; obtain ⟨c36, H⟩ := H
          have c36b0 := decide_eq_true c36
          clear c36
          replace H := ifP H; obtain ⟨c39, H⟩ := H
          have c39b0 := decide_eq_true c39
          clear c39
          replace H := ifP H; obtain ⟨c40, H⟩ := H
          have c40b0 := decide_eq_true c40
          clear c40
          replace H := sE H; obtain ⟨y107, Ny107, H⟩ := H
          replace H := ifP H; obtain ⟨c42, H⟩ := H
          have LMc42 := aM c42
          clear c42
          obtain ⟨y110, hy110⟩ : ∃ y_ : List Int, y_ = (x3_2 ++ y107) := ⟨_, rfl⟩
          replace H : (impl_ValueText.l0 k2 y110 (a0_2.size : Int) (wrap64 (x37_2 + 1)) a0_0 a0_1 a0_2) = some r := yH H hy110
          have Ny110 := aM hy110
          clear hy110
          have H' := aM H
          clear H
          try go_wp2
          replace HO_w1 := aM (Kd.R_drew HO_w1.out)
          replace BKz1 := aM (blk_drew BKz1.out)
          replace HB := aM (below_drew1 HB.out)
          have pv1 : 0 ≤ (x37_2 : Int) := odA
          have qv1 : x37_2 < (a0_2.size : Int) := odA
          have hxv1 := bt_at a0_2 x37_2
          replace pv1 := eq_true pv1
          replace qv1 := eq_true qv1
          have pv2 : 0 ≤ ((ji34) : Int) := odA
          have qv2 : (ji34) < (16 : Int) := odA
          have hxv2 := bt_at (⟨#[48, 49, 50, 51, 52, 53, 54, 55, 56, 57, 97, 98, 99, 100, 101, 102]⟩ : ByteArray) (ji34)
          replace pv2 := eq_true pv2
          replace qv2 := eq_true qv2
          have pv3 : 0 ≤ (x37_2 : Int) := odA
          have qv3 : x37_2 < (a0_2.size : Int) := odA
          have hxv3 := bt_at a0_2 x37_2
          replace pv3 := eq_true pv3
          replace qv3 := eq_true qv3
          have pv4 : 0 ≤ ((Go.bits .and .u8 (bt a0_2 x37_2) 15) : Int) := odA
          have qv4 : (Go.bits .and .u8 (bt a0_2 x37_2) 15) < (16 : Int) := odA
          have hxv4 := bt_at (⟨#[48, 49, 50, 51, 52, 53, 54, 55, 56, 57, 97, 98, 99, 100, 101, 102]⟩ : ByteArray) (Go.bits .and .u8 (bt a0_2 x37_2) 15)
          replace pv4 := eq_true pv4
          replace qv4 := eq_true qv4
          refine start_ (n := 16) (S := fun w' => w'.cell? ⟨gbz1, 0, none⟩ = some (.int .i64 a0_0) ∧ w'.cell? ⟨gbz1, 1, none⟩ = some (.int .i64 a0_1) ∧ w'.cell? ⟨gbz1, 2, none⟩ = some (.string a0_2)) (ds := []) (bm 16 0) (by kernel_rfl) rfl (by kernel_rfl) ⟨cK BKz1.out 0, cK BKz1.out 1, cK BKz1.out 2⟩ (fun hHeld => ?_); refine with_tabW impl_ValueText.tab15 impl_ValueText.bits15 (fun HT_ HW_ => ?_)
          generalize wr.drew = wv1 at HO_w1 BKz1 HB hHeld ⊢
          refine pZ 0 40 (bm 16 1) HT_.out ?_
          refine pZ 1 41 (bm 16 3) HT_.out ?_
          refine pZ 3 43 (bm 16 11) HT_.out ?_
          refine pZ 7 47 (bm 16 139) HT_.out ?_
          refine pZ 9 49 (bm 16 651) HT_.out ?_
          refine tZ 2 42 (bm 16 655) HT_.out HW_.out hHeld ?_
          refine tZ 4 44 (bm 16 671) HT_.out HW_.out hHeld ?_
          refine pZ 5 45 (bm 16 703) HT_.out ?_
          refine tZ 6 46 (bm 16 767) HT_.out HW_.out hHeld ?_
          refine tZ 8 48 (bm 16 1023) HT_.out HW_.out hHeld ?_
          refine tZ 10 50 (bm 16 2047) HT_.out HW_.out hHeld ?_
          refine pZ 11 51 (bm 16 4095) HT_.out ?_
          refine tZ 12 52 (bm 16 8191) HT_.out HW_.out hHeld ?_
          refine oZ 13 (some 53) (bm 16 16383) HT_.out (fun K hK => ?_)
          refine Kd.R_lit_step (Kd.int .u8) _ 5 ?hg (N := 53) ?hd (xs := ([bt (⟨#[48, 49, 50, 51, 52, 53, 54, 55, 56, 57, 97, 98, 99, 100, 101, 102]⟩ : ByteArray) (ji34), bt (⟨#[48, 49, 50, 51, 52, 53, 54, 55, 56, 57, 97, 98, 99, 100, 101, 102]⟩ : ByteArray) (Go.bits .and .u8 (bt a0_2 x37_2) 15)] : List Int)) (inner := [.int .u8 (bt (⟨#[48, 49, 50, 51, 52, 53, 54, 55, 56, 57, 97, 98, 99, 100, 101, 102]⟩ : ByteArray) (ji34)), .int .u8 (bt (⟨#[48, 49, 50, 51, 52, 53, 54, 55, 56, 57, 97, 98, 99, 100, 101, 102]⟩ : ByteArray) (Go.bits .and .u8 (bt a0_2 x37_2) 15))]) (ok := fun _ => True) (okp := fun _ => True) ?hr ?hp (fun _ hk => hk) trivial (Below.refl _ _) (Nat.le_refl _) (by simp) ?_; (case hd => rfl); (case hg => rfl); (case hr => first | (go_simp; done) | (go_simp; rfl)); (case hp => exact (Reps.one (show Kd.M (Kd.int .u8) _ _ _ (bt (⟨#[48, 49, 50, 51, 52, 53, 54, 55, 56, 57, 97, 98, 99, 100, 101, 102]⟩ : ByteArray) (ji34)) [.int .u8 (bt (⟨#[48, 49, 50, 51, 52, 53, 54, 55, 56, 57, 97, 98, 99, 100, 101, 102]⟩ : ByteArray) (ji34))] from rfl) (Reps.one (show Kd.M (Kd.int .u8) _ _ _ (bt (⟨#[48, 49, 50, 51, 52, 53, 54, 55, 56, 57, 97, 98, 99, 100, 101, 102]⟩ : ByteArray) (Go.bits .and .u8 (bt a0_2 x37_2) 15)) [.int .u8 (bt (⟨#[48, 49, 50, 51, 52, 53, 54, 55, 56, 57, 97, 98, 99, 100, 101, 102]⟩ : ByteArray) (Go.bits .and .u8 (bt a0_2 x37_2) 15))] from rfl) (Reps.none _ _))))
          intro vv1 wv2 hov1 hb hg_ hnew_
          clear hg_ hnew_
          (first | rw [← Ny107.out] at hov1 | (simp only [Int.reduceToNat] at hov1; rw [← Ny107.out] at hov1))
          have HOv1 := aM (Kd.R_lower (Kd.R_new' hov1 (Kd.R_lt (rX HO_w1.out))) (below_size (hX HB.out)))
          replace HO_w1 := aM (Kd.R_elder' (rX HO_w1.out) (Kd.R_base hov1) hb)
          replace BKz1 := aB BKz1 hb
          replace HB := aS HB hb
          clear hb hov1
          obtain ⟨Aov1, cov1, eov1⟩ := Kd.R_slice HOv1.out
          (first | subst eov1 | (injection eov1 with f1_ f2_ f3_; have fv1 := f1_.symm; have fv2 := f3_.symm; clear f1_ f2_ f3_; subst fv1; subst fv2))
          refine hK.out _ _ ⟨cK BKz1.out 0, cK BKz1.out 1, cK BKz1.out 2⟩ (fun hHeld => ?_)
          clear hK K
          refine nZ 53 ?_
          refine oZ 14 (some 54) (bm 16 32767) HT_.out (fun K hK => ?_)
          refine Kd.R_append_rows_step (Kd.int .u8) (w0 := w) w.heap.size (by rfl) (.tmp 40) (.tmp 53) 22 5 (.int .u8 0) 1 rfl Try.underlying22 info5 rfl (by decide) (by omega) u3 x3_2 y107 _ _ _ (fun k_ => some k_ ≠ (.slice Aov1 y107.length cov1 : Value).ownBlock) (fun _ => False) rfl rfl ?aO ?aR (fun _ _ h => h) (fun _ h => h.elim) ?aF ?aB ?aS ?aL ?_
          (case aR => repeat (first | exact (Kd.R_reads' HOv1.out).2.2 | (with_reducible refine Kd.C_alloc ?_ _) | (with_reducible refine Kd.C_drewN ?_ _) | (with_reducible refine Kd.C_drew ?_)))
          (case aB => exact (hX HB.out))
          (case aF => exact (fun k_ hk => Kd.fresh' (Kd.R_lt (rX HOv1.out)) k_ hk))
          (case aO => exact (rT (h := by exact Kd.R_mono HO_w1.out (fun _ hk => hk.2))))
          (case aS => exact (below_size (hX HB.out)))
          (case aL => have := LMc42.out; omega)
          intro vv2 wv3 ho hb hg hat
          rw [← Ny110.out] at ho
          have HOv2 := aM (ho)
          replace BKz1 := aM (blk_grown (g := gbz1) (o := .cells #[.int .i64 a0_0, .int .i64 a0_1, .string a0_2] 37 (0, 0)) (bX BKz1.out) hg (Kd.R_ne HO_w1.out BKz1.out (by decide)))
          replace HOv1 := aM (Kd.R_after (ok := (fun _ => True)) (rX HOv1.out) hg hat)
          replace HB := aM (hb)
          clear HO_w1
          clear ho hb hg hat
          refine hK.out _ _ ⟨cK BKz1.out 0, cK BKz1.out 1, cK BKz1.out 2⟩ (fun hHeld => ?_)
          clear hK K
          refine nZ 54 ?_
          refine pZ 15 3 (bm 16 65535) HT_.out ?_
          refine done_ (done_of HT_.out (by kernel_rfl)) ?_
          try go_wp2
          go_roundg k2
          case measure => have := HJy1.out; have := HKw1.out; omega
          case rel => exact ⟨(y110), (wrap64 (x37_2 + 1)), rS, H', ⟨by have := HJy1.out; have := HKw1.out; omega⟩, ⟨(rT (h := by exact Kd.R_mono HOv2.out (fun _ hk => trivial)))⟩, ⟨(bX BKz1.out)⟩, ⟨(hX HB.out)⟩⟩
def spec_Digits.l0 : Nat → Int → Bool → ByteArray → Option (ByteArray)
  | 0, _, _, _ => none
  | k + 1, x0, x3, x4 => if x0 = 0 then (if x3 = true then (if 1 + x4.size ≤ 9223372036854775807 then (some ((⟨#[45]⟩ : ByteArray) ++ x4)) else (none)) else (some x4)) else (if (Int.tmod x0 10) < 0 then ((some (([(wrap64 (48 + (wrap64 (-(Int.tmod x0 10))))) % 256] : List Int) : List Int)).bind fun y101 => (if (strOfNums y101).size + x4.size ≤ 9223372036854775807 then (spec_Digits.l0 k (wrap64 (Int.tdiv x0 10)) x3 ((strOfNums y101) ++ x4)) else (none))) else ((some (([(wrap64 (48 + (Int.tmod x0 10))) % 256] : List Int) : List Int)).bind fun y104 => (if (strOfNums y104).size + x4.size ≤ 9223372036854775807 then (spec_Digits.l0 k (wrap64 (Int.tdiv x0 10)) x3 ((strOfNums y104) ++ x4)) else (none))))
def spec_Digits.f (k : Nat) (a0 : Int) : Option (ByteArray) := if a0 = 0 then (some (⟨#[48]⟩ : ByteArray)) else (spec_Digits.l0 k a0 (decide (a0 < 0)) (⟨#[]⟩ : ByteArray))
set_option maxHeartbeats 8000000 in
set_option maxRecDepth 100000 in
theorem spec_Digits.calls (k : Nat) (a0 : Int) (r : ByteArray) (w : World) (h : spec_Digits.f k a0 = some r) :
    Calls Try.prog 61 #[.int .i64 a0] w fun e w' => e = .returned (.string r) ∧ Below w.heap.size w w' := by
  have HB := aM (Below.refl w.heap.size w)
  have H := h
  unfold spec_Digits.f at H
  clear h
  go_enter Try.func61, Try.ntmps61
  by_cases c2 : a0 = 0
  · rw [if_pos c2] at H
    obtain ⟨c2b0, c2b1⟩ := eqT c2
    clear c2
    obtain rfl := sI H
    go_wp2
    go_ret
    exact ⟨rE, (hX HB.out)⟩
  rw [if_neg c2] at H
  obtain ⟨c2b0, c2b1⟩ := eqF c2
  have H' := aM H
  clear H
  go_wp2
  go_loopg [0, 4] k (fun kq v0 v4 w' => ∃ (x0_1 : Int) (x4_1 : ByteArray), v0 = .int .i64 x0_1 ∧ v4 = .string x4_1 ∧ Aside0 (spec_Digits.l0 kq x0_1 (decide (a0 < 0)) x4_1 = some r) ∧ Aside0 (kq ≤ k) ∧ Aside0 (Below w.heap.size w w'))
  case atStart => exact ⟨(a0), ((⟨#[]⟩ : ByteArray)), rS, rS, H', ⟨Nat.le_refl _⟩, ⟨(hX HB.out)⟩⟩
  case round =>
    clear H'
    try clear c2
    try clear c2b0
    try clear c2b1
    try clear p2
    obtain ⟨x0_1, x4_1, rfl, rfl, HA, HKy1, HB⟩ := hrel
    cases gk with
    | zero => exact absurd HA.out (by simp [spec_Digits.l0])
    | succ k1 =>
      have H := HA.out
      clear HA
      simp only [spec_Digits.l0] at H
      by_cases c3 : x0_1 = 0
      · rw [if_pos c3] at H
        obtain ⟨c3b0, c3b1⟩ := eqT c3
        clear c3
        by_cases c4 : (decide (a0 < 0)) = true
        case neg =>
          rw [if_neg c4] at H
          have c4b0 : (decide (a0 < 0)) = false := by simpa using c4
          (try (have c4b1 : ¬ (a0 < 0) := by simpa using c4))
          clear c4
          obtain rfl := sI H
          go_wp2
          go_ret
          exact ⟨rE, (hX HB.out)⟩
        rw [if_pos c4] at H
        have c4b0 : (decide (a0 < 0)) = true := c4
        (try (have c4b1 : (a0 < 0) := by simpa using c4))
        clear c4
        replace H := ifP H; obtain ⟨c5, H⟩ := H
        have c5b0 := eq_true c5
        have c5b1 := decide_eq_true c5
        try have c5b2 : (9223372036854775807 < 1 + x4_1.size) = False := eq_false (Nat.not_lt.2 c5)
        obtain rfl := sI H
        go_wp2
        go_ret
        exact ⟨rE, (hX HB.out)⟩
      rw [if_neg c3] at H
      obtain ⟨c3b0, c3b1⟩ := eqF c3
      by_cases c6 : (Int.tmod x0_1 10) < 0
      case neg =>
        rw [if_neg c6] at H
        have c6b0 := decide_eq_false c6
        clear c6
        obtain ⟨y104, hy104⟩ : ∃ y_ : List Int, y_ = (([(wrap64 (48 + (Int.tmod x0_1 10))) % 256] : List Int)) := ⟨_, rfl⟩
        replace H : (if (strOfNums y104).size + x4_1.size ≤ 9223372036854775807 then (spec_Digits.l0 k1 (wrap64 (Int.tdiv x0_1 10)) (decide (a0 < 0)) ((strOfNums y104) ++ x4_1)) else (none)) = some r := yH H hy104
        have Ny104 := aM hy104
        clear hy104
        replace H := ifP H; obtain ⟨c11, H⟩ := H
        have c11b0 := eq_true c11
        have c11b1 := decide_eq_true c11
        try have c11b2 : (9223372036854775807 < (strOfNums y104).size + x4_1.size) = False := eq_false (Nat.not_lt.2 c11)
        have H' := aM H
        clear H
        go_wp2_with (first | ((with_reducible refine gate_dst (N := 21) rfl ?_); refine Kd.R_lit (Kd.int .u8) _ 5 ?hg (N := 21) ?hd (xs := ([(wrap64 (48 + (Int.tmod x0_1 10))) % 256] : List Int)) (inner := [.int .u8 ((wrap64 (48 + (Int.tmod x0_1 10))) % 256)]) (ok := fun _ => True) (okp := fun _ => True) ?hr ?hp (fun _ hk => hk) trivial (Below.refl _ _) (Nat.le_refl _) (by simp) ?_; (case hd => rfl); (case hg => rfl); (case hr => first | (go_simp; done) | (go_simp; rfl)); (case hp => exact (Reps.one (show Kd.M (Kd.int .u8) _ _ _ ((wrap64 (48 + (Int.tmod x0_1 10))) % 256) [.int .u8 ((wrap64 (48 + (Int.tmod x0_1 10))) % 256)] from rfl) (Reps.none _ _))); intro vx1 wx1 hox1 hb hg_ hnew_; clear hg_ hnew_; (first | rw [← Ny104.out] at hox1 | (simp only [Int.reduceToNat] at hox1; rw [← Ny104.out] at hox1)); have HOx1 := aM (Kd.R_lower hox1 (below_size (hX HB.out))); replace HB := aS HB hb; clear hb hox1; have hcvx1 := own_string (P := Try.prog) Try.underlying22 Try.underlying5 Try.underlying9 (Kd.own_of_R HOx1.out)))
        go_roundg k1
        case measure => have := HKy1.out; omega
        case rel => exact ⟨(wrap64 (Int.tdiv x0_1 10)), ((strOfNums y104) ++ x4_1), rS, rS, H', ⟨by have := HKy1.out; omega⟩, ⟨(hX HB.out)⟩⟩
      rw [if_pos c6] at H
      have c6b0 := decide_eq_true c6
      clear c6
      obtain ⟨y101, hy101⟩ : ∃ y_ : List Int, y_ = (([(wrap64 (48 + (wrap64 (-(Int.tmod x0_1 10))))) % 256] : List Int)) := ⟨_, rfl⟩
      replace H : (if (strOfNums y101).size + x4_1.size ≤ 9223372036854775807 then (spec_Digits.l0 k1 (wrap64 (Int.tdiv x0_1 10)) (decide (a0 < 0)) ((strOfNums y101) ++ x4_1)) else (none)) = some r := yH H hy101
      have Ny101 := aM hy101
      clear hy101
      replace H := ifP H; obtain ⟨c7, H⟩ := H
      have c7b0 := eq_true c7
      have c7b1 := decide_eq_true c7
      try have c7b2 : (9223372036854775807 < (strOfNums y101).size + x4_1.size) = False := eq_false (Nat.not_lt.2 c7)
      have H' := aM H
      clear H
      go_wp2_with (first | ((with_reducible refine gate_dst (N := 21) rfl ?_); refine Kd.R_lit (Kd.int .u8) _ 5 ?hg (N := 21) ?hd (xs := ([(wrap64 (48 + (wrap64 (-(Int.tmod x0_1 10))))) % 256] : List Int)) (inner := [.int .u8 ((wrap64 (48 + (wrap64 (-(Int.tmod x0_1 10))))) % 256)]) (ok := fun _ => True) (okp := fun _ => True) ?hr ?hp (fun _ hk => hk) trivial (Below.refl _ _) (Nat.le_refl _) (by simp) ?_; (case hd => rfl); (case hg => rfl); (case hr => first | (go_simp; done) | (go_simp; rfl)); (case hp => exact (Reps.one (show Kd.M (Kd.int .u8) _ _ _ ((wrap64 (48 + (wrap64 (-(Int.tmod x0_1 10))))) % 256) [.int .u8 ((wrap64 (48 + (wrap64 (-(Int.tmod x0_1 10))))) % 256)] from rfl) (Reps.none _ _))); intro vx1 wx1 hox1 hb hg_ hnew_; clear hg_ hnew_; (first | rw [← Ny101.out] at hox1 | (simp only [Int.reduceToNat] at hox1; rw [← Ny101.out] at hox1)); have HOx1 := aM (Kd.R_lower hox1 (below_size (hX HB.out))); replace HB := aS HB hb; clear hb hox1; have hcvx1 := own_string (P := Try.prog) Try.underlying22 Try.underlying5 Try.underlying9 (Kd.own_of_R HOx1.out)))
      go_roundg k1
      case measure => have := HKy1.out; omega
      case rel => exact ⟨(wrap64 (Int.tdiv x0_1 10)), ((strOfNums y101) ++ x4_1), rS, rS, H', ⟨by have := HKy1.out; omega⟩, ⟨(hX HB.out)⟩⟩
def spec_ValueText.l0 : Nat → ByteArray → List Int → Int → Int → Int → ByteArray → Option (ByteArray)
  | 0, _, _, _, _, _, _ => none
  | k + 1, x3, x4, x5, x102000, x102001, x102002 => if x5 < (x102002.size : Int) then (if 0 ≤ x5 then (if 0 ≤ ((bt x102002 x5) / 16) then (if ((bt x102002 x5) / 16) < (x3.size : Int) then (if 0 ≤ (Go.bits .and .u8 (bt x102002 x5) 15) then (if (Go.bits .and .u8 (bt x102002 x5) 15) < (x3.size : Int) then ((some (([bt x3 ((bt x102002 x5) / 16), bt x3 (Go.bits .and .u8 (bt x102002 x5) 15)] : List Int) : List Int)).bind fun y111 => (if x4.length + y111.length < 140737488355328 then (spec_ValueText.l0 k x3 (x4 ++ y111) (wrap64 (x5 + 1)) x102000 x102001 x102002) else (none))) else (none)) else (none)) else (none)) else (none)) else (none)) else (some (strOfNums x4))
def spec_ValueText.f (k : Nat) (a0_0 : Int) (a0_1 : Int) (a0_2 : ByteArray) : Option (ByteArray) := (spec_ValueOk.f a0_0 a0_1 a0_2).bind fun t102 => (if t102 = true then (if a0_0 = 1 then ((some (([(⟨#[110, 111]⟩ : ByteArray), (⟨#[121, 101, 115]⟩ : ByteArray)] : List ByteArray) : List ByteArray)).bind fun y103 => (if 0 ≤ a0_1 then (if a0_1 < (y103.length : Int) then (some (rdOf ByteArray.empty y103 a0_1)) else (none)) else (none))) else (if a0_0 = 2 then ((spec_Digits.f k a0_1).bind fun t107 => (some t107)) else (if a0_0 = 3 then (spec_ValueText.l0 k (⟨#[48, 49, 50, 51, 52, 53, 54, 55, 56, 57, 97, 98, 99, 100, 101, 102]⟩ : ByteArray) (([34] : List Int)) 0 a0_0 a0_1 a0_2) else (some (⟨#[110, 117, 108, 108]⟩ : ByteArray))))) else (some (⟨#[98, 97, 100]⟩ : ByteArray)))
def spec_ValueText.T14 : Bool × List (List Nat × List Nat) := (true, [([], []), ([], []), ([], []), ([2], [2]), ([], []), ([3, 4], [3, 4]), ([5], [5]), ([1, 6], [1, 6]), ([], []), ([], []), ([9], [9]), ([], []), ([10, 11], [10, 11]), ([12], [12]), ([8, 13], [8, 13]), ([7, 14], [7, 14]), ([0, 15], [0, 15]), ([16, 16, 0, 1, 2, 3, 4, 5, 6, 7, 8, 9, 10, 11, 12, 13, 14, 15, 16], [0, 16])])
def spec_ValueText.B14 : List Nat := [0, 0, 0, 4, 0, 28, 60, 126, 0, 0, 512, 0, 3584, 7680, 16128, 32766, 65535, 131071]
theorem spec_ValueText.tab14 : rtab .any (opsOf Try.f33 14) = spec_ValueText.T14 := by kernel_rfl
theorem spec_ValueText.bits14 : waitsOk spec_ValueText.T14.2 spec_ValueText.B14 = true := by kernel_rfl
set_option maxHeartbeats 8000000 in
set_option maxRecDepth 100000 in
theorem spec_ValueText.calls (k : Nat) (a0_0 : Int) (a0_1 : Int) (a0_2 : ByteArray) (r : ByteArray) (w : World) (h : spec_ValueText.f k a0_0 a0_1 a0_2 = some r) :
    Calls Try.prog 33 #[.agg #[.int .i64 a0_0, .int .i64 a0_1, .string a0_2]] w fun e w' => e = .returned (.string r) ∧ Below w.heap.size w w' := by
  have hu37 := Try.underlying37
  have HB := aM (Below.refl w.heap.size w)
  have H := h
  unfold spec_ValueText.f at H
  clear h
  replace H := bE H; obtain ⟨t102, A2, H⟩ := H
  go_enter Try.func33, Try.ntmps33
  go_wp2_with (first | ((with_reducible refine gate_dst (N := 1) rfl ?_); refine boxE 1 #[.int .i64 a0_0, .int .i64 a0_1, .string a0_2] 37 ?_; intro gbz1 hg wz1 hbox hb; have BKz1 := aM (hbox); have GWz1 := aG hg HB; have GEz1 := aG hg HB; replace HB := aS HB hb; clear hb hbox hg; obtain ⟨hczz1, hczz2, hczz3, hfzz1, hfzz2, hfzz3⟩ := cZ3 BKz1.out; refine Stop.out ?_))
  refine ⟨?_⟩
  by_cases c3 : t102 = true
  case neg =>
    replace c3 := Bool.eq_false_iff.mpr c3
    subst c3
    rw [if_neg nft] at H
    obtain rfl := sI H
    go_wp2_with (first | ((with_reducible refine gate_callee (f := 31) rfl ?_); refine goesM 31 7 Try.func31 #[.agg #[.int .i64 a0_0, .int .i64 a0_1, .string a0_2]] ?_; refine (spec_ValueOk.calls _ _ _ _ _ A2.out).mono ?_; rintro e wz2 ⟨rfl, hb⟩; refine ⟨_, rfl, ?_⟩; replace BKz1 := aB BKz1 hb; replace HB := aS HB hb; clear hb))
    go_ret
    exact ⟨rE, (hX HB.out)⟩
  subst c3
  rw [if_pos rfl] at H
  go_wp2_with (first | ((with_reducible refine gate_callee (f := 31) rfl ?_); refine goesM 31 7 Try.func31 #[.agg #[.int .i64 a0_0, .int .i64 a0_1, .string a0_2]] ?_; refine (spec_ValueOk.calls _ _ _ _ _ A2.out).mono ?_; rintro e wz2 ⟨rfl, hb⟩; refine ⟨_, rfl, ?_⟩; replace BKz1 := aB BKz1 hb; replace HB := aS HB hb; clear hb; obtain ⟨hczz4, hczz5, hczz6, hfzz4, hfzz5, hfzz6⟩ := cZ3 BKz1.out; refine Stop.out ?_))
  refine ⟨?_⟩
  by_cases c4 : a0_0 = 1
  · rw [if_pos c4] at H
    obtain ⟨c4b0, c4b1⟩ := eqT c4
    clear c4
    replace H := sE H; obtain ⟨y103, Ny103, H⟩ := H
    replace H := ifP H; obtain ⟨c5, H⟩ := H
    have c5b0 := decide_eq_true c5
    clear c5
    replace H := ifP H; obtain ⟨c6, H⟩ := H
    have c6b0 := decide_eq_true c6
    clear c6
    obtain rfl := sI H
    go_wp2_with (first | ((with_reducible refine gate_dst (N := 13) rfl ?_); refine Kd.R_lit Kd.string _ 9 ?hg (N := 13) ?hd (xs := ([(⟨#[110, 111]⟩ : ByteArray), (⟨#[121, 101, 115]⟩ : ByteArray)] : List ByteArray)) (inner := [.string (⟨#[110, 111]⟩ : ByteArray), .string (⟨#[121, 101, 115]⟩ : ByteArray)]) (ok := fun _ => True) (okp := fun _ => True) ?hr ?hp (fun _ hk => hk) trivial (Below.refl _ _) (Nat.le_refl _) (by simp) ?_; (case hd => rfl); (case hg => rfl); (case hr => first | (go_simp; done) | (go_simp; rfl)); (case hp => exact (Reps.one (show Kd.M Kd.string _ _ _ (⟨#[110, 111]⟩ : ByteArray) [.string (⟨#[110, 111]⟩ : ByteArray)] from rfl) (Reps.one (show Kd.M Kd.string _ _ _ (⟨#[121, 101, 115]⟩ : ByteArray) [.string (⟨#[121, 101, 115]⟩ : ByteArray)] from rfl) (Reps.none _ _)))); intro vz1 wz3 hoz1 hb hg_ hnew_; clear hg_ hnew_; (first | rw [← Ny103.out] at hoz1 | (simp only [Int.reduceToNat] at hoz1; rw [← Ny103.out] at hoz1)); have HOz1 := aM (Kd.R_lower hoz1 (below_size (hX HB.out))); replace BKz1 := aB BKz1 hb; replace HB := aS HB hb; clear hb hoz1; obtain ⟨hczz7, hczz8, hczz9, hfzz7, hfzz8, hfzz9⟩ := cZ3 BKz1.out; obtain ⟨Aoz1, coz1, eoz1⟩ := Kd.R_slice HOz1.out; subst eoz1; have pz1 : 0 ≤ (a0_1 : Int) := odA; have qz1 : a0_1 < (y103.length : Int) := odA; obtain ⟨adz1, ez1, hxz1⟩ := Kd.at_string (Kd.R_reads' HOz1.out).2.2 a0_1 pz1 qz1; cases ez1; replace pz1 := eq_true pz1; replace qz1 := eq_true qz1))
    go_ret
    exact ⟨rE, (hX HB.out)⟩
  rw [if_neg c4] at H
  obtain ⟨c4b0, c4b1⟩ := eqF c4
  by_cases c15 : a0_0 = 2
  · rw [if_pos c15] at H
    obtain ⟨c15b0, c15b1⟩ := eqT c15
    clear c15
    replace H := bE H; obtain ⟨t107, A16, H⟩ := H
    obtain rfl := sI H
    go_wp2_with (first | ((with_reducible refine gate_callee (f := 61) rfl ?_); refine goesM 61 22 Try.func61 #[.int .i64 a0_1] ?_; refine (spec_Digits.calls _ _ _ _ A16.out).mono ?_; rintro e wz3 ⟨rfl, hb⟩; refine ⟨_, rfl, ?_⟩; replace BKz1 := aB BKz1 hb; replace HB := aS HB hb; clear hb))
    go_ret
    exact ⟨rE, (hX HB.out)⟩
  rw [if_neg c15] at H
  obtain ⟨c15b0, c15b1⟩ := eqF c15
  by_cases c22 : a0_0 = 3
  case neg =>
    rw [if_neg c22] at H
    obtain ⟨c22b0, c22b1⟩ := eqF c22
    obtain rfl := sI H
    go_wp2
    go_ret
    exact ⟨rE, (hX HB.out)⟩
  rw [if_pos c22] at H
  obtain ⟨c22b0, c22b1⟩ := eqT c22
  clear c22
  obtain ⟨y108, hy108⟩ : ∃ y_ : List Int, y_ = (([34] : List Int)) := ⟨_, rfl⟩
  replace H : (spec_ValueText.l0 k (⟨#[48, 49, 50, 51, 52, 53, 54, 55, 56, 57, 97, 98, 99, 100, 101, 102]⟩ : ByteArray) y108 0 a0_0 a0_1 a0_2) = some r := yH H hy108
  have Ny108 := aM hy108
  clear hy108
  have H' := aM H
  clear H
  go_wp2_with (first | ((with_reducible refine gate_dst (N := 25) rfl ?_); refine Kd.R_lit (Kd.int .u8) _ 5 ?hg (N := 25) ?hd (xs := ([34] : List Int)) (inner := [.int .u8 34]) (ok := fun _ => True) (okp := fun _ => True) ?hr ?hp (fun _ hk => hk) trivial (Below.refl _ _) (Nat.le_refl _) (by simp) ?_; (case hd => rfl); (case hg => rfl); (case hr => first | (go_simp; done) | (go_simp; rfl)); (case hp => exact (Reps.one (show Kd.M (Kd.int .u8) _ _ _ 34 [.int .u8 34] from rfl) (Reps.none _ _))); intro vz1 wz3 hoz1 hb hg_ hnew_; clear hg_ hnew_; (first | rw [← Ny108.out] at hoz1 | (simp only [Int.reduceToNat] at hoz1; rw [← Ny108.out] at hoz1)); have HOz1 := aM (Kd.R_lower hoz1 (below_size (hX HB.out))); replace BKz1 := aB BKz1 hb; replace HB := aS HB hb; clear hb hoz1))
  go_loopg [4, 5] k (fun kq v4 v5 w' => ∃ (x4_1 : List Int) (x5_1 : Int), v5 = .int .i64 x5_1 ∧ Aside0 (spec_ValueText.l0 kq (⟨#[48, 49, 50, 51, 52, 53, 54, 55, 56, 57, 97, 98, 99, 100, 101, 102]⟩ : ByteArray) x4_1 x5_1 a0_0 a0_1 a0_2 = some r) ∧ Aside0 (kq ≤ k) ∧ Aside0 (Kd.R (Kd.int .u8) 5 w' w.heap.size (fun _ => True) v4 x4_1) ∧ Aside0 (w'.heap[gbz1]? = some (.cells #[.int .i64 a0_0, .int .i64 a0_1, .string a0_2] 37 (0, 0))) ∧ Aside0 (Below w.heap.size w w'))
  case atStart => exact ⟨(y108), (0), rS, H', ⟨Nat.le_refl _⟩, ⟨(rX HOz1.out)⟩, ⟨(bX BKz1.out)⟩, ⟨(hX HB.out)⟩⟩
  case round =>
    clear H'
    try clear p1
    try clear q1
    try clear hx1
    try clear p2
    try clear c3
    try clear c4
    try clear c4b0
    try clear c4b1
    try clear p10
    try clear q10
    try clear hx10
    try clear c15
    try clear c15b0
    try clear c15b1
    try clear c22
    try clear c22b0
    try clear c22b1
    try clear hczz1 hczz2 hczz3 hfzz1 hfzz2 hfzz3
    try clear hczz4 hczz5 hczz6 hfzz4 hfzz5 hfzz6
    try clear hx106_0
    try clear p106
    try clear q106
    obtain ⟨x4_1, x5_1, rfl, HA, HKy1, HO_y1, BKz1, HB⟩ := hrel
    cases gk with
    | zero => exact absurd HA.out (by simp [spec_ValueText.l0])
    | succ k1 =>
      have H := HA.out
      clear HA
      simp only [spec_ValueText.l0] at H
      by_cases c29 : x5_1 < (a0_2.size : Int)
      case neg =>
        rw [if_neg c29] at H
        have c29b0 := decide_eq_false c29
        clear c29
        obtain rfl := sI H
        obtain ⟨hczx1, hczx2, hczx3, hfzx1, hfzx2, hfzx3⟩ := cZ3 BKz1.out
        have hcvx1 := own_string (P := Try.prog) Try.underlying22 Try.underlying5 Try.underlying9 (Kd.own_of_R HO_y1.out)
        go_wp2
        go_ret
        exact ⟨rE, (hX HB.out)⟩
      rw [if_pos c29] at H
      have c29b0 := decide_eq_true c29
      clear c29
      replace H := ifP H; obtain ⟨c30, H⟩ := H
      have c30b0 := decide_eq_true c30
      clear c30
      obtain ⟨ji32, hji32⟩ : ∃ j_ : Int, ((bt a0_2 x5_1) / 16) = j_ := ⟨_, rfl⟩
      replace H : (if 0 ≤ (ji32) then (if (ji32) < ((⟨#[48, 49, 50, 51, 52, 53, 54, 55, 56, 57, 97, 98, 99, 100, 101, 102]⟩ : ByteArray).size : Int) then (if 0 ≤ (Go.bits .and .u8 (bt a0_2 x5_1) 15) then (if (Go.bits .and .u8 (bt a0_2 x5_1) 15) < ((⟨#[48, 49, 50, 51, 52, 53, 54, 55, 56, 57, 97, 98, 99, 100, 101, 102]⟩ : ByteArray).size : Int) then ((some (([bt (⟨#[48, 49, 50, 51, 52, 53, 54, 55, 56, 57, 97, 98, 99, 100, 101, 102]⟩ : ByteArray) (ji32), bt (⟨#[48, 49, 50, 51, 52, 53, 54, 55, 56, 57, 97, 98, 99, 100, 101, 102]⟩ : ByteArray) (Go.bits .and .u8 (bt a0_2 x5_1) 15)] : List Int) : List Int)).bind fun y111 => (if x4_1.length + y111.length < 140737488355328 then (spec_ValueText.l0 k1 (⟨#[48, 49, 50, 51, 52, 53, 54, 55, 56, 57, 97, 98, 99, 100, 101, 102]⟩ : ByteArray) (x4_1 ++ y111) (wrap64 (x5_1 + 1)) a0_0 a0_1 a0_2) else (none))) else (none)) else (none)) else (none)) else (none)) = some r := by first | (rw [hji32] at H; exact H) | (simp only [hji32] at H ⊢; exact H)
      replace H := ifP H; obtain ⟨c33, H⟩ := H
      have c33b0 := decide_eq_true c33
      clear c33
      replace H := ifP H; obtain ⟨c34, H⟩ := H
      have c34b0 := decide_eq_true c34
      clear c34
      replace H := ifP H; obtain ⟨c37, H⟩ := H
      have c37b0 := decide_eq_true c37
      clear c37
      replace H := ifP H; obtain ⟨c38, H⟩ := H
      have c38b0 := decide_eq_true c38
      clear c38
      replace H := sE H; obtain ⟨y111, Ny111, H⟩ := H
      replace H := ifP H; obtain ⟨c40, H⟩ := H
      have LMc40 := aM c40
      clear c40
      obtain ⟨y114, hy114⟩ : ∃ y_ : List Int, y_ = (x4_1 ++ y111) := ⟨_, rfl⟩
      replace H : (spec_ValueText.l0 k1 (⟨#[48, 49, 50, 51, 52, 53, 54, 55, 56, 57, 97, 98, 99, 100, 101, 102]⟩ : ByteArray) y114 (wrap64 (x5_1 + 1)) a0_0 a0_1 a0_2) = some r := yH H hy114
      have Ny114 := aM hy114
      clear hy114
      have H' := aM H
      clear H
      obtain ⟨hczx1, hczx2, hczx3, hfzx1, hfzx2, hfzx3⟩ := cZ3 BKz1.out
      try go_wp2
      replace HO_y1 := aM (Kd.R_drew HO_y1.out)
      replace BKz1 := aM (blk_drew BKz1.out)
      replace HB := aM (below_drew1 HB.out)
      have px1 : 0 ≤ (x5_1 : Int) := odA
      have qx1 : x5_1 < (a0_2.size : Int) := odA
      have hxx1 := bt_at a0_2 x5_1
      replace px1 := eq_true px1
      replace qx1 := eq_true qx1
      have px2 : 0 ≤ ((ji32) : Int) := odA
      have qx2 : (ji32) < (16 : Int) := odA
      have hxx2 := bt_at (⟨#[48, 49, 50, 51, 52, 53, 54, 55, 56, 57, 97, 98, 99, 100, 101, 102]⟩ : ByteArray) (ji32)
      replace px2 := eq_true px2
      replace qx2 := eq_true qx2
      have px3 : 0 ≤ (x5_1 : Int) := odA
      have qx3 : x5_1 < (a0_2.size : Int) := odA
      have hxx3 := bt_at a0_2 x5_1
      replace px3 := eq_true px3
      replace qx3 := eq_true qx3
      have px4 : 0 ≤ ((Go.bits .and .u8 (bt a0_2 x5_1) 15) : Int) := odA
      have qx4 : (Go.bits .and .u8 (bt a0_2 x5_1) 15) < (16 : Int) := odA
      have hxx4 := bt_at (⟨#[48, 49, 50, 51, 52, 53, 54, 55, 56, 57, 97, 98, 99, 100, 101, 102]⟩ : ByteArray) (Go.bits .and .u8 (bt a0_2 x5_1) 15)
      replace px4 := eq_true px4
      replace qx4 := eq_true qx4
      refine start_ (n := 18) (S := fun w' => w'.cell? ⟨gbz1, 0, none⟩ = some (.int .i64 a0_0) ∧ w'.cell? ⟨gbz1, 1, none⟩ = some (.int .i64 a0_1) ∧ w'.cell? ⟨gbz1, 2, none⟩ = some (.string a0_2)) (ds := []) (bm 18 0) (by kernel_rfl) rfl (by kernel_rfl) ⟨cK BKz1.out 0, cK BKz1.out 1, cK BKz1.out 2⟩ (fun hHeld => ?_); refine with_tabW spec_ValueText.tab14 spec_ValueText.bits14 (fun HT_ HW_ => ?_)
      generalize wr.drew = wx1 at HO_y1 BKz1 HB hHeld ⊢
      refine pZ 0 33 (bm 18 1) HT_.out ?_
      refine pZ 1 34 (bm 18 3) HT_.out ?_
      refine pZ 2 35 (bm 18 7) HT_.out ?_
      refine pZ 4 37 (bm 18 23) HT_.out ?_
      refine pZ 8 41 (bm 18 279) HT_.out ?_
      refine pZ 9 42 (bm 18 791) HT_.out ?_
      refine pZ 11 44 (bm 18 2839) HT_.out ?_
      refine tZ 3 36 (bm 18 2847) HT_.out HW_.out hHeld ?_
      refine tZ 5 38 (bm 18 2879) HT_.out HW_.out hHeld ?_
      refine pZ 6 39 (bm 18 2943) HT_.out ?_
      refine tZ 7 40 (bm 18 3071) HT_.out HW_.out hHeld ?_
      refine tZ 10 43 (bm 18 4095) HT_.out HW_.out hHeld ?_
      refine tZ 12 45 (bm 18 8191) HT_.out HW_.out hHeld ?_
      refine pZ 13 46 (bm 18 16383) HT_.out ?_
      refine tZ 14 47 (bm 18 32767) HT_.out HW_.out hHeld ?_
      refine oZ 15 (some 48) (bm 18 65535) HT_.out (fun K hK => ?_)
      refine Kd.R_lit_step (Kd.int .u8) _ 5 ?hg (N := 48) ?hd (xs := ([bt (⟨#[48, 49, 50, 51, 52, 53, 54, 55, 56, 57, 97, 98, 99, 100, 101, 102]⟩ : ByteArray) (ji32), bt (⟨#[48, 49, 50, 51, 52, 53, 54, 55, 56, 57, 97, 98, 99, 100, 101, 102]⟩ : ByteArray) (Go.bits .and .u8 (bt a0_2 x5_1) 15)] : List Int)) (inner := [.int .u8 (bt (⟨#[48, 49, 50, 51, 52, 53, 54, 55, 56, 57, 97, 98, 99, 100, 101, 102]⟩ : ByteArray) (ji32)), .int .u8 (bt (⟨#[48, 49, 50, 51, 52, 53, 54, 55, 56, 57, 97, 98, 99, 100, 101, 102]⟩ : ByteArray) (Go.bits .and .u8 (bt a0_2 x5_1) 15))]) (ok := fun _ => True) (okp := fun _ => True) ?hr ?hp (fun _ hk => hk) trivial (Below.refl _ _) (Nat.le_refl _) (by simp) ?_; (case hd => rfl); (case hg => rfl); (case hr => first | (go_simp; done) | (go_simp; rfl)); (case hp => exact (Reps.one (show Kd.M (Kd.int .u8) _ _ _ (bt (⟨#[48, 49, 50, 51, 52, 53, 54, 55, 56, 57, 97, 98, 99, 100, 101, 102]⟩ : ByteArray) (ji32)) [.int .u8 (bt (⟨#[48, 49, 50, 51, 52, 53, 54, 55, 56, 57, 97, 98, 99, 100, 101, 102]⟩ : ByteArray) (ji32))] from rfl) (Reps.one (show Kd.M (Kd.int .u8) _ _ _ (bt (⟨#[48, 49, 50, 51, 52, 53, 54, 55, 56, 57, 97, 98, 99, 100, 101, 102]⟩ : ByteArray) (Go.bits .and .u8 (bt a0_2 x5_1) 15)) [.int .u8 (bt (⟨#[48, 49, 50, 51, 52, 53, 54, 55, 56, 57, 97, 98, 99, 100, 101, 102]⟩ : ByteArray) (Go.bits .and .u8 (bt a0_2 x5_1) 15))] from rfl) (Reps.none _ _))))
      intro vx1 wx2 hox1 hb hg_ hnew_
      clear hg_ hnew_
      (first | rw [← Ny111.out] at hox1 | (simp only [Int.reduceToNat] at hox1; rw [← Ny111.out] at hox1))
      have HOx1 := aM (Kd.R_lower (Kd.R_new' hox1 (Kd.R_lt (rX HO_y1.out))) (below_size (hX HB.out)))
      replace HO_y1 := aM (Kd.R_elder' (rX HO_y1.out) (Kd.R_base hox1) hb)
      replace BKz1 := aB BKz1 hb
      replace HB := aS HB hb
      clear hb hox1
      obtain ⟨Aox1, cox1, eox1⟩ := Kd.R_slice HOx1.out
      (first | subst eox1 | (injection eox1 with f1_ f2_ f3_; have fx1 := f1_.symm; have fx2 := f3_.symm; clear f1_ f2_ f3_; subst fx1; subst fx2))
      refine hK.out _ _ ⟨cK BKz1.out 0, cK BKz1.out 1, cK BKz1.out 2⟩ (fun hHeld => ?_)
      clear hK K
      refine nZ 48 ?_
      refine oZ 16 (some 49) (bm 18 131071) HT_.out (fun K hK => ?_)
      refine Kd.R_append_rows_step (Kd.int .u8) (w0 := w) w.heap.size (by rfl) (.tmp 33) (.tmp 48) 22 5 (.int .u8 0) 1 rfl Try.underlying22 info5 rfl (by decide) (by omega) u4 x4_1 y111 _ _ _ (fun k_ => some k_ ≠ (.slice Aox1 y111.length cox1 : Value).ownBlock) (fun _ => False) rfl rfl ?aO ?aR (fun _ _ h => h) (fun _ h => h.elim) ?aF ?aB ?aS ?aL ?_
      (case aR => repeat (first | exact (Kd.R_reads' HOx1.out).2.2 | (with_reducible refine Kd.C_alloc ?_ _) | (with_reducible refine Kd.C_drewN ?_ _) | (with_reducible refine Kd.C_drew ?_)))
      (case aB => exact (hX HB.out))
      (case aF => exact (fun k_ hk => Kd.fresh' (Kd.R_lt (rX HOx1.out)) k_ hk))
      (case aO => exact (rT (h := by exact Kd.R_mono HO_y1.out (fun _ hk => hk.2))))
      (case aS => exact (below_size (hX HB.out)))
      (case aL => have := LMc40.out; omega)
      intro vx2 wx3 ho hb hg hat
      rw [← Ny114.out] at ho
      have HOx2 := aM (ho)
      replace BKz1 := aM (blk_grown (g := gbz1) (o := .cells #[.int .i64 a0_0, .int .i64 a0_1, .string a0_2] 37 (0, 0)) (bX BKz1.out) hg (Kd.R_ne HO_y1.out BKz1.out (by decide)))
      replace HOx1 := aM (Kd.R_after (ok := (fun _ => True)) (rX HOx1.out) hg hat)
      replace HB := aM (hb)
      clear HO_y1
      clear ho hb hg hat
      refine hK.out _ _ ⟨cK BKz1.out 0, cK BKz1.out 1, cK BKz1.out 2⟩ (fun hHeld => ?_)
      clear hK K
      refine nZ 49 ?_
      refine pZ 17 4 (bm 18 262143) HT_.out ?_
      refine done_ (done_of HT_.out (by kernel_rfl)) ?_
      try go_wp2
      go_roundg k1
      case measure => have := HKy1.out; omega
      case rel => exact ⟨(y114), (wrap64 (x5_1 + 1)), rS, H', ⟨by have := HKy1.out; omega⟩, ⟨(rT (h := by exact Kd.R_mono HOx2.out (fun _ hk => trivial)))⟩, ⟨(bX BKz1.out)⟩, ⟨(hX HB.out)⟩⟩
def laws_big.f (l0 : List Int) : Option (Bool) := some (decide ((l0.length : Int) > 1048576))
set_option maxHeartbeats 8000000 in
set_option maxRecDepth 100000 in
theorem laws_big.calls (A0 : Option Addr) (c0 : Nat) (l0 : List Int) (r : Bool) (w : World) (hr0 : Kd.C (Kd.int .u8) w A0 l0.length l0) (hc0 : l0.length ≤ c0) (h : laws_big.f l0 = some r) :
    Calls Try.prog 9 #[.slice A0 l0.length c0] w fun e w' => e = .returned (.bool r) ∧ Drawn0 w w' := by
  have HR0 := aM hr0
  have HC0 := aM hc0
  clear hr0 hc0
  have H := h
  unfold laws_big.f at H
  clear h
  obtain rfl := sI H
  go_enter Try.func9, Try.ntmps9
  go_wp2
  go_ret
  exact ⟨by first | rfl | (simp; done) | (simp [*]; done), dX⟩
def laws_FnValues.j0 : Nat → Bool → Int → Int → ByteArray → Int → Int → ByteArray → Option (Bool)
  | 0, _, _, _, _, _, _, _ => none
  | k + 1, x59, x109000, x109001, x109002, x110000, x110001, x110002 => if x59 = true then (some false) else ((impl_ValueSame.f x109000 x109001 x109002 x110000 x110001 x110002).bind fun t135 => (if t135 = true then ((impl_ValueLess.f k x109000 x109001 x109002 x110000 x110001 x110002).bind fun t136 => (if t136 = true then (some false) else ((impl_ValueLess.f k x110000 x110001 x110002 x109000 x109001 x109002).bind fun t137 => (some (!t137))))) else ((impl_ValueLess.f k x109000 x109001 x109002 x110000 x110001 x110002).bind fun t138 => ((impl_ValueLess.f k x110000 x110001 x110002 x109000 x109001 x109002).bind fun t139 => (some (t138 != t139))))))
def laws_FnValues.f (k : Nat) (l0 : List Int) : Option (Bool) := (laws_big.f l0).bind fun t101 => (if t101 = true then (some true) else ((spec_DrawValueLess.f k l0).bind fun bt102 => ((spec_DrawValueSame.f k l0).bind fun bt110 => ((spec_DrawValueOk.f k l0).bind fun bt118 => ((spec_DrawValueText.f k l0).bind fun bt121 => ((impl_ValueLess.f k bt102.1 bt102.2.1 bt102.2.2.1 bt102.2.2.2.1 bt102.2.2.2.2.1 bt102.2.2.2.2.2).bind fun t126 => ((spec_ValueLess.f bt102.1 bt102.2.1 bt102.2.2.1 bt102.2.2.2.1 bt102.2.2.2.2.1 bt102.2.2.2.2.2).bind fun t127 => (if (t126 != t127) = true then (laws_FnValues.j0 k true bt102.1 bt102.2.1 bt102.2.2.1 bt102.2.2.2.1 bt102.2.2.2.2.1 bt102.2.2.2.2.2) else ((impl_ValueSame.f bt110.1 bt110.2.1 bt110.2.2.1 bt110.2.2.2.1 bt110.2.2.2.2.1 bt110.2.2.2.2.2).bind fun t128 => ((spec_ValueSame.f bt110.1 bt110.2.1 bt110.2.2.1 bt110.2.2.2.1 bt110.2.2.2.2.1 bt110.2.2.2.2.2).bind fun t129 => (if (t128 != t129) = true then (laws_FnValues.j0 k true bt102.1 bt102.2.1 bt102.2.2.1 bt102.2.2.2.1 bt102.2.2.2.2.1 bt102.2.2.2.2.2) else ((impl_ValueOk.f bt118.1 bt118.2.1 bt118.2.2).bind fun t130 => ((spec_ValueOk.f bt118.1 bt118.2.1 bt118.2.2).bind fun t131 => (if (t130 != t131) = true then (laws_FnValues.j0 k true bt102.1 bt102.2.1 bt102.2.2.1 bt102.2.2.2.1 bt102.2.2.2.2.1 bt102.2.2.2.2.2) else ((impl_ValueText.f k bt121.1 bt121.2.1 bt121.2.2).bind fun t132 => ((spec_ValueText.f k bt121.1 bt121.2.1 bt121.2.2).bind fun t133 => (if t132.toList = t133.toList then ((impl_ValueText.f k bt121.1 bt121.2.1 bt121.2.2).bind fun t134 => (laws_FnValues.j0 k (t134.toList == ([] : List UInt8)) bt102.1 bt102.2.1 bt102.2.2.1 bt102.2.2.2.1 bt102.2.2.2.2.1 bt102.2.2.2.2.2)) else (laws_FnValues.j0 k true bt102.1 bt102.2.1 bt102.2.2.1 bt102.2.2.2.1 bt102.2.2.2.2.1 bt102.2.2.2.2.2))))))))))))))))))
def laws_FnValues.T6 : Bool × List (List Nat × List Nat) := (true, [([], []), ([], []), ([0, 1], [0, 1]), ([], []), ([], []), ([3, 4, 2], [3, 4]), ([2, 5], [2, 5]), ([6, 5], [6]), ([7], [7]), ([7], [7]), ([8, 9, 7, 7], [7, 8, 9]), ([7], [7]), ([7], [7]), ([11, 12, 10, 7], [7, 11, 12]), ([10, 13, 7], [7, 10, 13]), ([7, 14], [7, 14]), ([15, 13], [15]), ([16], [16]), ([17, 16, 16], [16, 17]), ([16], [16]), ([19, 18, 16], [16, 19]), ([18, 20, 16], [16, 18, 20]), ([16, 21], [16, 21]), ([22, 20], [22]), ([23], [23]), ([24, 23, 23], [23, 24]), ([23], [23]), ([26, 25, 23], [23, 26]), ([25, 27, 23], [23, 25, 27]), ([23, 28], [23, 28]), ([29, 27], [29]), ([30], [30]), ([31, 30, 30], [30, 31]), ([32, 30], [30, 32]), ([30, 33], [30, 33])])
def laws_FnValues.B6 : List Nat := [0, 0, 3, 0, 0, 31, 63, 127, 255, 255, 1023, 255, 255, 8191, 16383, 32767, 65535, 131071, 262143, 131071, 1048575, 2097151, 4194303, 8388607, 16777215, 33554431, 16777215, 134217727, 268435455, 536870911, 1073741823, 2147483647, 4294967295, 8589934591, 17179869183]
theorem laws_FnValues.tab6 : rtab .any (opsOf Try.f6 6) = laws_FnValues.T6 := by kernel_rfl
theorem laws_FnValues.bits6 : waitsOk laws_FnValues.T6.2 laws_FnValues.B6 = true := by kernel_rfl
def laws_FnValues.T10 : Bool × List (List Nat × List Nat) := (true, [([], []), ([], []), ([0, 1], [0, 1]), ([], []), ([], []), ([3, 4, 2], [3, 4]), ([2, 5], [2, 5]), ([6, 5, 0, 1, 2, 3, 4, 5, 6], [6])])
def laws_FnValues.B10 : List Nat := [0, 0, 3, 0, 0, 31, 63, 127]
theorem laws_FnValues.tab10 : rtab .any (opsOf Try.f6 10) = laws_FnValues.T10 := by kernel_rfl
theorem laws_FnValues.bits10 : waitsOk laws_FnValues.T10.2 laws_FnValues.B10 = true := by kernel_rfl
set_option maxHeartbeats 8000000 in
set_option maxRecDepth 100000 in
theorem laws_FnValues.calls (k : Nat) (A0 : Option Addr) (c0 : Nat) (l0 : List Int) (r : Bool) (w : World) (hr0 : Kd.C (Kd.int .u8) w A0 l0.length l0) (hc0 : l0.length ≤ c0) (h : laws_FnValues.f k l0 = some r) :
    Calls Try.prog 6 #[.slice A0 l0.length c0] w fun e w' => e = .returned (.bool r) ∧ Below w.heap.size w w' := by
  have hu37 := Try.underlying37
  have HR0 := aM hr0
  have HC0 := aM hc0
  clear hr0 hc0
  have HB := aM (Below.refl w.heap.size w)
  have H := h
  unfold laws_FnValues.f at H
  clear h
  replace H := bE H; obtain ⟨t101, A2, H⟩ := H
  go_enter Try.func6, Try.ntmps6
  by_cases c3 : t101 = true
  · subst c3
    rw [if_pos rfl] at H
    obtain rfl := sI H
    go_wp2_with (first | (refine goesM 9 10 Try.func9 #[.slice A0 l0.length c0] ?_; refine (laws_big.calls _ _ _ _ _ (cX HR0.out) HC0.out A2.out).mono ?_; rintro e w' ⟨rfl, ⟨nd, rfl⟩⟩; refine ⟨_, rfl, ?_⟩))
    go_ret
    exact ⟨rE, (hX HB.out)⟩
  replace c3 := Bool.eq_false_iff.mpr c3
  subst c3
  rw [if_neg nft] at H
  replace H := bE H; obtain ⟨⟨t102, t103, t104, t105, t106, t107⟩, A4, H⟩ := H
  try dsimp only at H
  replace H := bE H; obtain ⟨⟨t110, t111, t112, t113, t114, t115⟩, A5, H⟩ := H
  try dsimp only at H
  replace H := bE H; obtain ⟨⟨t118, t119, t120⟩, A6, H⟩ := H
  try dsimp only at H
  replace H := bE H; obtain ⟨⟨t121, t122, t123⟩, A7, H⟩ := H
  try dsimp only at H
  have HC8 := aM H
  clear H
  go_upto_region 6 with (first | ((with_reducible refine gate_callee (f := 9) rfl ?_); refine goesM 9 10 Try.func9 #[.slice A0 l0.length c0] ?_; refine (laws_big.calls _ _ _ _ _ (cX HR0.out) HC0.out A2.out).mono ?_; rintro e w' ⟨rfl, ⟨nd, rfl⟩⟩; refine ⟨_, rfl, ?_⟩) | ((with_reducible refine gate_callee (f := 22) rfl ?_); refine goesM 22 13 Try.func22 #[.slice A0 l0.length c0] ?_; refine (spec_DrawValueLess.calls _ _ _ _ _ _ _ _ _ _ _ (cX HR0.out) HC0.out A4.out).mono ?_; rintro e wz1 ⟨rfl, hb⟩; refine ⟨_, rfl, ?_⟩; replace HB := aS HB hb; clear hb) | ((with_reducible refine gate_dst (N := 3) rfl ?_); refine boxE 3 #[.int .i64 0, .int .i64 0, .string (⟨#[]⟩ : ByteArray)] 37 ?_; intro gbz1 hg wz2 hbox hb; have BKz1 := aM (hbox); have GWz1 := aG hg HB; have GEz1 := aG hg HB; replace HB := aS HB hb; clear hb hbox hg) | ((with_reducible refine gate_dst (N := 4) rfl ?_); refine boxE 4 #[.int .i64 0, .int .i64 0, .string (⟨#[]⟩ : ByteArray)] 37 ?_; intro gbz2 hg wz3 hbox hb; have BKz2 := aM (hbox); have GWz2 := aG hg HB; have GEz2 := aG hg HB; have NBz1 := aL hg BKz1; have NBz2 := aR hg BKz1; replace BKz1 := aB BKz1 hb; replace HB := aS HB hb; clear hb hbox hg; have hnbz1 := NBz1.out; have hncz1 := NBz2.out; obtain ⟨hczz1, hczz2, hczz3, hfzz1, hfzz2, hfzz3⟩ := cZ3 BKz1.out; obtain ⟨hczz4, hczz5, hczz6, hfzz4, hfzz5, hfzz6⟩ := cZ3 BKz2.out) | ((with_reducible refine gate_callee (f := 23) rfl ?_); refine goesM 23 18 Try.func23 #[.slice A0 l0.length c0] ?_; refine (spec_DrawValueSame.calls k _ _ l0 t110 t111 t112 t113 t114 t115 _ (by exact Kd.C_below HR0.out (hX HB.out)) HC0.out A5.out).mono ?_; rintro e wz4 ⟨rfl, hb⟩; refine ⟨_, rfl, ?_⟩; replace BKz1 := aM (blk_below (g := gbz1) (o := .cells #[.int .i64 t102, .int .i64 t103, .string t104] 37 (0, 0)) (bP BKz1.out) hb); replace BKz2 := aM (blk_below (g := gbz2) (o := .cells #[.int .i64 t105, .int .i64 t106, .string t107] 37 (0, 0)) (bP BKz2.out) hb); replace HB := aS HB hb; clear hb) | ((with_reducible refine gate_dst (N := 5) rfl ?_); refine boxE 5 #[.int .i64 0, .int .i64 0, .string (⟨#[]⟩ : ByteArray)] 37 ?_; intro gbz3 hg wz5 hbox hb; have BKz3 := aM (hbox); have GWz3 := aG hg HB; have GEz3 := aG hg HB; have NBz3 := aL hg BKz1; have NBz4 := aR hg BKz1; have NBz5 := aL hg BKz2; have NBz6 := aR hg BKz2; replace BKz1 := aB BKz1 hb; replace BKz2 := aB BKz2 hb; replace HB := aS HB hb; clear hb hbox hg) | ((with_reducible refine gate_dst (N := 6) rfl ?_); refine boxE 6 #[.int .i64 0, .int .i64 0, .string (⟨#[]⟩ : ByteArray)] 37 ?_; intro gbz4 hg wz6 hbox hb; have BKz4 := aM (hbox); have GWz4 := aG hg HB; have GEz4 := aG hg HB; have NBz7 := aL hg BKz1; have NBz8 := aR hg BKz1; have NBz9 := aL hg BKz2; have NBz10 := aR hg BKz2; have NBz11 := aL hg BKz3; have NBz12 := aR hg BKz3; replace BKz1 := aB BKz1 hb; replace BKz2 := aB BKz2 hb; replace BKz3 := aB BKz3 hb; replace HB := aS HB hb; clear hb hbox hg; have hnbz2 := NBz4.out; have hncz2 := NBz3.out; have hnbz3 := NBz6.out; have hncz3 := NBz5.out; have hnbz4 := NBz11.out; have hncz4 := NBz12.out; obtain ⟨hczz7, hczz8, hczz9, hfzz7, hfzz8, hfzz9⟩ := cZ3 BKz3.out; have hnbz5 := NBz8.out; have hncz5 := NBz7.out; have hnbz6 := NBz10.out; have hncz6 := NBz9.out; obtain ⟨hczz10, hczz11, hczz12, hfzz10, hfzz11, hfzz12⟩ := cZ3 BKz4.out) | ((with_reducible refine gate_callee (f := 24) rfl ?_); refine goesM 24 22 Try.func24 #[.slice A0 l0.length c0] ?_; refine (spec_DrawValueOk.calls k _ _ l0 t118 t119 t120 _ (by exact Kd.C_below HR0.out (hX HB.out)) HC0.out A6.out).mono ?_; rintro e wz7 ⟨rfl, hb⟩; refine ⟨_, rfl, ?_⟩; replace BKz1 := aF BKz1 hb; replace BKz2 := aF BKz2 hb; replace BKz3 := aM (blk_below (g := gbz3) (o := .cells #[.int .i64 t110, .int .i64 t111, .string t112] 37 (0, 0)) (bP BKz3.out) hb); replace BKz4 := aM (blk_below (g := gbz4) (o := .cells #[.int .i64 t113, .int .i64 t114, .string t115] 37 (0, 0)) (bP BKz4.out) hb); replace HB := aS HB hb; clear hb) | ((with_reducible refine gate_callee (f := 25) rfl ?_); refine goesM 25 24 Try.func25 #[.slice A0 l0.length c0] ?_; refine (spec_DrawValueText.calls _ _ _ _ _ _ _ _ (cC HR0.out HB.out) HC0.out A7.out).mono ?_; rintro e wz8 ⟨rfl, hb⟩; refine ⟨_, rfl, ?_⟩; replace BKz1 := aB BKz1 hb; replace BKz2 := aB BKz2 hb; replace BKz3 := aB BKz3 hb; replace BKz4 := aB BKz4 hb; replace HB := aS HB hb; clear hb) | ((with_reducible refine gate_dst (N := 7) rfl ?_); refine boxE 7 #[.int .i64 0, .int .i64 0, .string (⟨#[]⟩ : ByteArray)] 37 ?_; intro gbz5 hg wz9 hbox hb; have BKz5 := aM (hbox); have GWz5 := aG hg HB; have GEz5 := aG hg HB; have NBz13 := aL hg BKz1; have NBz14 := aR hg BKz1; have NBz15 := aL hg BKz2; have NBz16 := aR hg BKz2; have NBz17 := aL hg BKz3; have NBz18 := aR hg BKz3; have NBz19 := aL hg BKz4; have NBz20 := aR hg BKz4; replace BKz1 := aB BKz1 hb; replace BKz2 := aB BKz2 hb; replace BKz3 := aB BKz3 hb; replace BKz4 := aB BKz4 hb; replace HB := aS HB hb; clear hb hbox hg) | ((with_reducible refine gate_dst (N := 8) rfl ?_); refine boxE 8 #[.int .i64 0, .int .i64 0, .string (⟨#[]⟩ : ByteArray)] 37 ?_; intro gbz6 hg wz10 hbox hb; have BKz6 := aM (hbox); have GWz6 := aG hg HB; have GEz6 := aG hg HB; have NBz21 := aL hg BKz1; have NBz22 := aR hg BKz1; have NBz23 := aL hg BKz2; have NBz24 := aR hg BKz2; have NBz25 := aL hg BKz3; have NBz26 := aR hg BKz3; have NBz27 := aL hg BKz4; have NBz28 := aR hg BKz4; have NBz29 := aL hg BKz5; have NBz30 := aR hg BKz5; replace BKz1 := aB BKz1 hb; replace BKz2 := aB BKz2 hb; replace BKz3 := aB BKz3 hb; replace BKz4 := aB BKz4 hb; replace BKz5 := aB BKz5 hb; replace HB := aS HB hb; clear hb hbox hg; have hnbz7 := NBz14.out; have hncz7 := NBz13.out; have hnbz8 := NBz16.out; have hncz8 := NBz15.out; have hnbz9 := NBz18.out; have hncz9 := NBz17.out; have hnbz10 := NBz20.out; have hncz10 := NBz19.out; have hnbz11 := NBz29.out; have hncz11 := NBz30.out; obtain ⟨hczz13, hczz14, hczz15, hfzz13, hfzz14, hfzz15⟩ := cZ3 BKz5.out; have hnbz12 := NBz22.out; have hncz12 := NBz21.out; have hnbz13 := NBz24.out; have hncz13 := NBz23.out; have hnbz14 := NBz26.out; have hncz14 := NBz25.out; have hnbz15 := NBz28.out; have hncz15 := NBz27.out; obtain ⟨hczz16, hczz17, hczz18, hfzz16, hfzz17, hfzz18⟩ := cZ3 BKz6.out))
  (try simp only [Act.put, List.setIfInBounds_toArray, List.set_cons_zero, List.set_cons_succ])
  go_cut [59] (fun vz1 wc => ∃ (kq : Nat) (x59_7 : Bool), vz1 = .bool x59_7 ∧ Aside0 (laws_FnValues.j0 kq x59_7 t102 t103 t104 t105 t106 t107 = some r) ∧ Aside0 (kq ≤ k) ∧ Aside0 (wc.heap[gbz1]? = some (.cells #[.int .i64 t102, .int .i64 t103, .string t104] 37 (0, 0))) ∧ Aside0 (wc.heap[gbz2]? = some (.cells #[.int .i64 t105, .int .i64 t106, .string t107] 37 (0, 0))) ∧ Aside0 (wc.heap[gbz3]? = some (.cells #[.int .i64 t110, .int .i64 t111, .string t112] 37 (0, 0))) ∧ Aside0 (wc.heap[gbz4]? = some (.cells #[.int .i64 t113, .int .i64 t114, .string t115] 37 (0, 0))) ∧ Aside0 (wc.heap[gbz5]? = some (.cells #[.int .i64 t118, .int .i64 t119, .string t120] 37 (0, 0))) ∧ Aside0 (wc.heap[gbz6]? = some (.cells #[.int .i64 t121, .int .i64 t122, .string t123] 37 (0, 0))) ∧ Aside0 (Below w.heap.size w wc))
  case first =>
    have H := HC8.out
    clear HC8
    replace H := bE H; obtain ⟨t126, A40, H⟩ := H
    replace H := bE H; obtain ⟨t127, A41, H⟩ := H
    by_cases c42 : (t126 != t127) = true
    · rw [if_pos c42] at H
      have c42b0 : (t126 != t127) = true := c42
      (try (have c42b1 : decide (t126 = t127) = false := by simpa using c42))
      (try (have c42b2 : (t126 == t127) = false := by simpa using c42))
      (try (have c42b3 : ¬ (t126 = t127) := by simpa using c42))
      clear c42
      (first | rw [c42b0] | (simp only [i64_w, i32_w]; rw [c42b0]) | skip)
      have H' := aM H
      clear H
      try go_wp2
      have ny1 : Aside0 (((((((wz10.setCell ⟨gbz5, 0, none⟩ (.int .i64 t118)).setCell ⟨gbz5, 1, none⟩ (.int .i64 t119)).setCell ⟨gbz5, 2, none⟩ (.string t120)).setCell ⟨gbz6, 0, none⟩ (.int .i64 t121)).setCell ⟨gbz6, 1, none⟩ (.int .i64 t122)).setCell ⟨gbz6, 2, none⟩ (.string t123)).heap[gbz1]? = some (.cells #[.int .i64 t102, .int .i64 t103, .string t104] 37 (0, 0))) := ⟨(bF BKz1.out)⟩
      have ny2 : Aside0 (((((((wz10.setCell ⟨gbz5, 0, none⟩ (.int .i64 t118)).setCell ⟨gbz5, 1, none⟩ (.int .i64 t119)).setCell ⟨gbz5, 2, none⟩ (.string t120)).setCell ⟨gbz6, 0, none⟩ (.int .i64 t121)).setCell ⟨gbz6, 1, none⟩ (.int .i64 t122)).setCell ⟨gbz6, 2, none⟩ (.string t123)).heap[gbz2]? = some (.cells #[.int .i64 t105, .int .i64 t106, .string t107] 37 (0, 0))) := ⟨(bF BKz2.out)⟩
      have ny3 : Aside0 (((((((wz10.setCell ⟨gbz5, 0, none⟩ (.int .i64 t118)).setCell ⟨gbz5, 1, none⟩ (.int .i64 t119)).setCell ⟨gbz5, 2, none⟩ (.string t120)).setCell ⟨gbz6, 0, none⟩ (.int .i64 t121)).setCell ⟨gbz6, 1, none⟩ (.int .i64 t122)).setCell ⟨gbz6, 2, none⟩ (.string t123)).heap[gbz3]? = some (.cells #[.int .i64 t110, .int .i64 t111, .string t112] 37 (0, 0))) := ⟨(bF BKz3.out)⟩
      have ny4 : Aside0 (((((((wz10.setCell ⟨gbz5, 0, none⟩ (.int .i64 t118)).setCell ⟨gbz5, 1, none⟩ (.int .i64 t119)).setCell ⟨gbz5, 2, none⟩ (.string t120)).setCell ⟨gbz6, 0, none⟩ (.int .i64 t121)).setCell ⟨gbz6, 1, none⟩ (.int .i64 t122)).setCell ⟨gbz6, 2, none⟩ (.string t123)).heap[gbz4]? = some (.cells #[.int .i64 t113, .int .i64 t114, .string t115] 37 (0, 0))) := ⟨(bF BKz4.out)⟩
      have ny5 : Aside0 (((((((wz10.setCell ⟨gbz5, 0, none⟩ (.int .i64 t118)).setCell ⟨gbz5, 1, none⟩ (.int .i64 t119)).setCell ⟨gbz5, 2, none⟩ (.string t120)).setCell ⟨gbz6, 0, none⟩ (.int .i64 t121)).setCell ⟨gbz6, 1, none⟩ (.int .i64 t122)).setCell ⟨gbz6, 2, none⟩ (.string t123)).heap[gbz5]? = some (.cells #[.int .i64 t118, .int .i64 t119, .string t120] 37 (0, 0))) := ⟨(bP BKz5.out)⟩
      have ny6 : Aside0 (((((((wz10.setCell ⟨gbz5, 0, none⟩ (.int .i64 t118)).setCell ⟨gbz5, 1, none⟩ (.int .i64 t119)).setCell ⟨gbz5, 2, none⟩ (.string t120)).setCell ⟨gbz6, 0, none⟩ (.int .i64 t121)).setCell ⟨gbz6, 1, none⟩ (.int .i64 t122)).setCell ⟨gbz6, 2, none⟩ (.string t123)).heap[gbz6]? = some (.cells #[.int .i64 t121, .int .i64 t122, .string t123] 37 (0, 0))) := ⟨(bP BKz6.out)⟩
      have ny7 : Aside0 (Below w.heap.size w ((((((wz10.setCell ⟨gbz5, 0, none⟩ (.int .i64 t118)).setCell ⟨gbz5, 1, none⟩ (.int .i64 t119)).setCell ⟨gbz5, 2, none⟩ (.string t120)).setCell ⟨gbz6, 0, none⟩ (.int .i64 t121)).setCell ⟨gbz6, 1, none⟩ (.int .i64 t122)).setCell ⟨gbz6, 2, none⟩ (.string t123))) := ⟨(hX HB.out)⟩
      (try clear BKz1)
      (try clear BKz2)
      (try clear BKz3)
      (try clear BKz4)
      (try clear BKz5)
      (try clear BKz6)
      (try clear HB)
      generalize ((((((wz10.setCell ⟨gbz5, 0, none⟩ (.int .i64 t118)).setCell ⟨gbz5, 1, none⟩ (.int .i64 t119)).setCell ⟨gbz5, 2, none⟩ (.string t120)).setCell ⟨gbz6, 0, none⟩ (.int .i64 t121)).setCell ⟨gbz6, 1, none⟩ (.int .i64 t122)).setCell ⟨gbz6, 2, none⟩ (.string t123)) = wy1 at ny1 ny2 ny3 ny4 ny5 ny6 ny7 ⊢
      have BKz1 := ny1
      have BKz2 := ny2
      have BKz3 := ny3
      have BKz4 := ny4
      have BKz5 := ny5
      have BKz6 := ny6
      have HB := ny7
      clear ny1 ny2 ny3 ny4 ny5 ny6 ny7
      replace BKz1 := aM (blk_drew BKz1.out)
      replace BKz2 := aM (blk_drew BKz2.out)
      replace BKz3 := aM (blk_drew BKz3.out)
      replace BKz4 := aM (blk_drew BKz4.out)
      replace BKz5 := aM (blk_drew BKz5.out)
      replace BKz6 := aM (blk_drew BKz6.out)
      replace HB := aM (below_drew1 HB.out)
      refine start_ (n := 35) (S := fun w' => w'.cell? ⟨gbz1, 0, none⟩ = some (.int .i64 t102) ∧ w'.cell? ⟨gbz1, 1, none⟩ = some (.int .i64 t103) ∧ w'.cell? ⟨gbz1, 2, none⟩ = some (.string t104) ∧ w'.cell? ⟨gbz2, 0, none⟩ = some (.int .i64 t105) ∧ w'.cell? ⟨gbz2, 1, none⟩ = some (.int .i64 t106) ∧ w'.cell? ⟨gbz2, 2, none⟩ = some (.string t107)) (ds := []) (bm 35 0) (by kernel_rfl) rfl (by kernel_rfl) ⟨cK BKz1.out 0, cK BKz1.out 1, cK BKz1.out 2, cK BKz2.out 0, cK BKz2.out 1, cK BKz2.out 2⟩ (fun hHeld => ?_); refine with_tabW laws_FnValues.tab6 laws_FnValues.bits6 (fun HT_ HW_ => ?_)
      generalize wy1.drew = wy2 at BKz1 BKz2 BKz3 BKz4 BKz5 BKz6 HB hHeld ⊢
      refine tZ 0 25 (bm 35 1) HT_.out HW_.out hHeld ?_
      refine tZ 1 26 (bm 35 3) HT_.out HW_.out hHeld ?_
      refine tZ 3 28 (bm 35 11) HT_.out HW_.out hHeld ?_
      refine tZ 4 29 (bm 35 27) HT_.out HW_.out hHeld ?_
      refine oZ 2 (some 27) (bm 35 31) HT_.out (fun K hK => ?_)
      refine goesN Try.func26 #[.agg #[.int .i64 t102, .int .i64 t103, .string t104], .agg #[.int .i64 t105, .int .i64 t106, .string t107]] ?_
      with_reducible refine (impl_ValueLess.calls _ _ _ _ _ _ _ _ _ A40.out).mono ?_
      rintro e wy3 ⟨rfl, hb⟩
      refine ⟨_, rfl, ?_⟩
      replace BKz1 := aB BKz1 hb
      replace BKz2 := aB BKz2 hb
      replace BKz3 := aB BKz3 hb
      replace BKz4 := aB BKz4 hb
      replace BKz5 := aB BKz5 hb
      replace BKz6 := aB BKz6 hb
      replace HB := aS HB hb
      (try clear hb)
      (try clear hb2)
      (try clear hk)
      (try clear hi)
      refine hK.out _ _ ⟨cK BKz1.out 0, cK BKz1.out 1, cK BKz1.out 2, cK BKz2.out 0, cK BKz2.out 1, cK BKz2.out 2⟩ (fun hHeld => ?_)
      clear hK K
      refine nZ 27 ?_
      refine oZ 5 (some 30) (bm 35 63) HT_.out (fun K hK => ?_)
      refine goesN Try.func27 #[.agg #[.int .i64 t102, .int .i64 t103, .string t104], .agg #[.int .i64 t105, .int .i64 t106, .string t107]] ?_
      with_reducible refine (spec_ValueLess.calls _ _ _ _ _ _ _ _ A41.out).mono ?_
      rintro e wy4 ⟨rfl, hb⟩
      refine ⟨_, rfl, ?_⟩
      replace BKz1 := aB BKz1 hb
      replace BKz2 := aB BKz2 hb
      replace BKz3 := aB BKz3 hb
      replace BKz4 := aB BKz4 hb
      replace BKz5 := aB BKz5 hb
      replace BKz6 := aB BKz6 hb
      replace HB := aS HB hb
      (try clear hb)
      (try clear hb2)
      (try clear hk)
      (try clear hi)
      refine hK.out _ _ ⟨cK BKz1.out 0, cK BKz1.out 1, cK BKz1.out 2, cK BKz2.out 0, cK BKz2.out 1, cK BKz2.out 2⟩ (fun hHeld => ?_)
      clear hK K
      refine nZ 30 ?_
      refine pZ 6 31 (bm 35 127) HT_.out ?_
      refine pZ 7 32 (bm 35 255) HT_.out ?_
      refine pU 8 33 (bm 35 511) HT_.out ?_
      refine pU 9 34 (bm 35 1023) HT_.out ?_
      refine pU 10 35 (bm 35 2047) HT_.out ?_
      refine pU 11 36 (bm 35 4095) HT_.out ?_
      refine pU 12 37 (bm 35 8191) HT_.out ?_
      refine pU 13 38 (bm 35 16383) HT_.out ?_
      refine pU 14 39 (bm 35 32767) HT_.out ?_
      refine pZ 15 40 (bm 35 65535) HT_.out ?_
      refine pZ 16 41 (bm 35 131071) HT_.out ?_
      refine pU 17 42 (bm 35 262143) HT_.out ?_
      refine pU 18 43 (bm 35 524287) HT_.out ?_
      refine pU 19 44 (bm 35 1048575) HT_.out ?_
      refine pU 20 45 (bm 35 2097151) HT_.out ?_
      refine pU 21 46 (bm 35 4194303) HT_.out ?_
      refine pZ 22 47 (bm 35 8388607) HT_.out ?_
      refine pZ 23 48 (bm 35 16777215) HT_.out ?_
      refine pU 24 49 (bm 35 33554431) HT_.out ?_
      refine pU 25 50 (bm 35 67108863) HT_.out ?_
      refine pU 26 51 (bm 35 134217727) HT_.out ?_
      refine pU 27 52 (bm 35 268435455) HT_.out ?_
      refine pU 28 53 (bm 35 536870911) HT_.out ?_
      refine pZ 29 54 (bm 35 1073741823) HT_.out ?_
      refine pZ 30 55 (bm 35 2147483647) HT_.out ?_
      refine pU 31 56 (bm 35 4294967295) HT_.out ?_
      refine pU 32 57 (bm 35 8589934591) HT_.out ?_
      refine pU 33 58 (bm 35 17179869183) HT_.out ?_
      refine pZ 34 59 (bm 35 34359738367) HT_.out ?_
      refine done_ (done_of HT_.out (by kernel_rfl)) ?_
      try go_wp2
      go_meet
      case rel => exact ⟨_, (true), rS, H', ⟨by first | omega | exact Nat.le_refl _⟩, ⟨(bX BKz1.out)⟩, ⟨(bX BKz2.out)⟩, ⟨(bX BKz3.out)⟩, ⟨(bX BKz4.out)⟩, ⟨(bX BKz5.out)⟩, ⟨(bX BKz6.out)⟩, ⟨(hX HB.out)⟩⟩
    rw [if_neg c42] at H
    have c42b0 : (t126 != t127) = false := by simpa using c42
    (try (have c42b1 : decide (t126 = t127) = true := by simpa using c42))
    (try (have c42b2 : (t126 == t127) = true := by simpa using c42))
    clear c42
    (first | rw [c42b0] | (simp only [i64_w, i32_w]; rw [c42b0]) | skip)
    replace H := bE H; obtain ⟨t128, A47, H⟩ := H
    replace H := bE H; obtain ⟨t129, A48, H⟩ := H
    by_cases c49 : (t128 != t129) = true
    · rw [if_pos c49] at H
      have c49b0 : (t128 != t129) = true := c49
      (try (have c49b1 : decide (t128 = t129) = false := by simpa using c49))
      (try (have c49b2 : (t128 == t129) = false := by simpa using c49))
      (try (have c49b3 : ¬ (t128 = t129) := by simpa using c49))
      clear c49
      have H' := aM H
      clear H
      try go_wp2
      have ny1 : Aside0 (((((((wz10.setCell ⟨gbz5, 0, none⟩ (.int .i64 t118)).setCell ⟨gbz5, 1, none⟩ (.int .i64 t119)).setCell ⟨gbz5, 2, none⟩ (.string t120)).setCell ⟨gbz6, 0, none⟩ (.int .i64 t121)).setCell ⟨gbz6, 1, none⟩ (.int .i64 t122)).setCell ⟨gbz6, 2, none⟩ (.string t123)).heap[gbz1]? = some (.cells #[.int .i64 t102, .int .i64 t103, .string t104] 37 (0, 0))) := ⟨(bF BKz1.out)⟩
      have ny2 : Aside0 (((((((wz10.setCell ⟨gbz5, 0, none⟩ (.int .i64 t118)).setCell ⟨gbz5, 1, none⟩ (.int .i64 t119)).setCell ⟨gbz5, 2, none⟩ (.string t120)).setCell ⟨gbz6, 0, none⟩ (.int .i64 t121)).setCell ⟨gbz6, 1, none⟩ (.int .i64 t122)).setCell ⟨gbz6, 2, none⟩ (.string t123)).heap[gbz2]? = some (.cells #[.int .i64 t105, .int .i64 t106, .string t107] 37 (0, 0))) := ⟨(bF BKz2.out)⟩
      have ny3 : Aside0 (((((((wz10.setCell ⟨gbz5, 0, none⟩ (.int .i64 t118)).setCell ⟨gbz5, 1, none⟩ (.int .i64 t119)).setCell ⟨gbz5, 2, none⟩ (.string t120)).setCell ⟨gbz6, 0, none⟩ (.int .i64 t121)).setCell ⟨gbz6, 1, none⟩ (.int .i64 t122)).setCell ⟨gbz6, 2, none⟩ (.string t123)).heap[gbz3]? = some (.cells #[.int .i64 t110, .int .i64 t111, .string t112] 37 (0, 0))) := ⟨(bF BKz3.out)⟩
      have ny4 : Aside0 (((((((wz10.setCell ⟨gbz5, 0, none⟩ (.int .i64 t118)).setCell ⟨gbz5, 1, none⟩ (.int .i64 t119)).setCell ⟨gbz5, 2, none⟩ (.string t120)).setCell ⟨gbz6, 0, none⟩ (.int .i64 t121)).setCell ⟨gbz6, 1, none⟩ (.int .i64 t122)).setCell ⟨gbz6, 2, none⟩ (.string t123)).heap[gbz4]? = some (.cells #[.int .i64 t113, .int .i64 t114, .string t115] 37 (0, 0))) := ⟨(bF BKz4.out)⟩
      have ny5 : Aside0 (((((((wz10.setCell ⟨gbz5, 0, none⟩ (.int .i64 t118)).setCell ⟨gbz5, 1, none⟩ (.int .i64 t119)).setCell ⟨gbz5, 2, none⟩ (.string t120)).setCell ⟨gbz6, 0, none⟩ (.int .i64 t121)).setCell ⟨gbz6, 1, none⟩ (.int .i64 t122)).setCell ⟨gbz6, 2, none⟩ (.string t123)).heap[gbz5]? = some (.cells #[.int .i64 t118, .int .i64 t119, .string t120] 37 (0, 0))) := ⟨(bP BKz5.out)⟩
      have ny6 : Aside0 (((((((wz10.setCell ⟨gbz5, 0, none⟩ (.int .i64 t118)).setCell ⟨gbz5, 1, none⟩ (.int .i64 t119)).setCell ⟨gbz5, 2, none⟩ (.string t120)).setCell ⟨gbz6, 0, none⟩ (.int .i64 t121)).setCell ⟨gbz6, 1, none⟩ (.int .i64 t122)).setCell ⟨gbz6, 2, none⟩ (.string t123)).heap[gbz6]? = some (.cells #[.int .i64 t121, .int .i64 t122, .string t123] 37 (0, 0))) := ⟨(bP BKz6.out)⟩
      have ny7 : Aside0 (Below w.heap.size w ((((((wz10.setCell ⟨gbz5, 0, none⟩ (.int .i64 t118)).setCell ⟨gbz5, 1, none⟩ (.int .i64 t119)).setCell ⟨gbz5, 2, none⟩ (.string t120)).setCell ⟨gbz6, 0, none⟩ (.int .i64 t121)).setCell ⟨gbz6, 1, none⟩ (.int .i64 t122)).setCell ⟨gbz6, 2, none⟩ (.string t123))) := ⟨(hX HB.out)⟩
      (try clear BKz1)
      (try clear BKz2)
      (try clear BKz3)
      (try clear BKz4)
      (try clear BKz5)
      (try clear BKz6)
      (try clear HB)
      generalize ((((((wz10.setCell ⟨gbz5, 0, none⟩ (.int .i64 t118)).setCell ⟨gbz5, 1, none⟩ (.int .i64 t119)).setCell ⟨gbz5, 2, none⟩ (.string t120)).setCell ⟨gbz6, 0, none⟩ (.int .i64 t121)).setCell ⟨gbz6, 1, none⟩ (.int .i64 t122)).setCell ⟨gbz6, 2, none⟩ (.string t123)) = wy1 at ny1 ny2 ny3 ny4 ny5 ny6 ny7 ⊢
      have BKz1 := ny1
      have BKz2 := ny2
      have BKz3 := ny3
      have BKz4 := ny4
      have BKz5 := ny5
      have BKz6 := ny6
      have HB := ny7
      clear ny1 ny2 ny3 ny4 ny5 ny6 ny7
      replace BKz1 := aM (blk_drew BKz1.out)
      replace BKz2 := aM (blk_drew BKz2.out)
      replace BKz3 := aM (blk_drew BKz3.out)
      replace BKz4 := aM (blk_drew BKz4.out)
      replace BKz5 := aM (blk_drew BKz5.out)
      replace BKz6 := aM (blk_drew BKz6.out)
      replace HB := aM (below_drew1 HB.out)
      refine start_ (n := 35) (S := fun w' => w'.cell? ⟨gbz1, 0, none⟩ = some (.int .i64 t102) ∧ w'.cell? ⟨gbz1, 1, none⟩ = some (.int .i64 t103) ∧ w'.cell? ⟨gbz1, 2, none⟩ = some (.string t104) ∧ w'.cell? ⟨gbz2, 0, none⟩ = some (.int .i64 t105) ∧ w'.cell? ⟨gbz2, 1, none⟩ = some (.int .i64 t106) ∧ w'.cell? ⟨gbz2, 2, none⟩ = some (.string t107) ∧ w'.cell? ⟨gbz3, 0, none⟩ = some (.int .i64 t110) ∧ w'.cell? ⟨gbz3, 1, none⟩ = some (.int .i64 t111) ∧ w'.cell? ⟨gbz3, 2, none⟩ = some (.string t112) ∧ w'.cell? ⟨gbz4, 0, none⟩ = some (.int .i64 t113) ∧ w'.cell? ⟨gbz4, 1, none⟩ = some (.int .i64 t114) ∧ w'.cell? ⟨gbz4, 2, none⟩ = some (.string t115)) (ds := []) (bm 35 0) (by kernel_rfl) rfl (by kernel_rfl) ⟨cK BKz1.out 0, cK BKz1.out 1, cK BKz1.out 2, cK BKz2.out 0, cK BKz2.out 1, cK BKz2.out 2, cK BKz3.out 0, cK BKz3.out 1, cK BKz3.out 2, cK BKz4.out 0, cK BKz4.out 1, cK BKz4.out 2⟩ (fun hHeld => ?_); refine with_tabW laws_FnValues.tab6 laws_FnValues.bits6 (fun HT_ HW_ => ?_)
      generalize wy1.drew = wy2 at BKz1 BKz2 BKz3 BKz4 BKz5 BKz6 HB hHeld ⊢
      refine tZ 0 25 (bm 35 1) HT_.out HW_.out hHeld ?_
      refine tZ 1 26 (bm 35 3) HT_.out HW_.out hHeld ?_
      refine tZ 3 28 (bm 35 11) HT_.out HW_.out hHeld ?_
      refine tZ 4 29 (bm 35 27) HT_.out HW_.out hHeld ?_
      refine oZ 2 (some 27) (bm 35 31) HT_.out (fun K hK => ?_)
      refine goesN Try.func26 #[.agg #[.int .i64 t102, .int .i64 t103, .string t104], .agg #[.int .i64 t105, .int .i64 t106, .string t107]] ?_
      with_reducible refine (impl_ValueLess.calls _ _ _ _ _ _ _ _ _ A40.out).mono ?_
      rintro e wy3 ⟨rfl, hb⟩
      refine ⟨_, rfl, ?_⟩
      replace BKz1 := aB BKz1 hb
      replace BKz2 := aB BKz2 hb
      replace BKz3 := aB BKz3 hb
      replace BKz4 := aB BKz4 hb
      replace BKz5 := aB BKz5 hb
      replace BKz6 := aB BKz6 hb
      replace HB := aS HB hb
      (try clear hb)
      (try clear hb2)
      (try clear hk)
      (try clear hi)
      refine hK.out _ _ ⟨cK BKz1.out 0, cK BKz1.out 1, cK BKz1.out 2, cK BKz2.out 0, cK BKz2.out 1, cK BKz2.out 2, cK BKz3.out 0, cK BKz3.out 1, cK BKz3.out 2, cK BKz4.out 0, cK BKz4.out 1, cK BKz4.out 2⟩ (fun hHeld => ?_)
      clear hK K
      refine nZ 27 ?_
      refine oZ 5 (some 30) (bm 35 63) HT_.out (fun K hK => ?_)
      refine goesN Try.func27 #[.agg #[.int .i64 t102, .int .i64 t103, .string t104], .agg #[.int .i64 t105, .int .i64 t106, .string t107]] ?_
      with_reducible refine (spec_ValueLess.calls _ _ _ _ _ _ _ _ A41.out).mono ?_
      rintro e wy4 ⟨rfl, hb⟩
      refine ⟨_, rfl, ?_⟩
      replace BKz1 := aB BKz1 hb
      replace BKz2 := aB BKz2 hb
      replace BKz3 := aB BKz3 hb
      replace BKz4 := aB BKz4 hb
      replace BKz5 := aB BKz5 hb
      replace BKz6 := aB BKz6 hb
      replace HB := aS HB hb
      (try clear hb)
      (try clear hb2)
      (try clear hk)
      (try clear hi)
      refine hK.out _ _ ⟨cK BKz1.out 0, cK BKz1.out 1, cK BKz1.out 2, cK BKz2.out 0, cK BKz2.out 1, cK BKz2.out 2, cK BKz3.out 0, cK BKz3.out 1, cK BKz3.out 2, cK BKz4.out 0, cK BKz4.out 1, cK BKz4.out 2⟩ (fun hHeld => ?_)
      clear hK K
      refine nZ 30 ?_
      refine pZ 6 31 (bm 35 127) HT_.out ?_
      refine pZ 7 32 (bm 35 255) HT_.out ?_
      refine tZ 8 33 (bm 35 511) HT_.out HW_.out hHeld ?_
      refine tZ 9 34 (bm 35 1023) HT_.out HW_.out hHeld ?_
      refine tZ 11 36 (bm 35 3071) HT_.out HW_.out hHeld ?_
      refine tZ 12 37 (bm 35 7167) HT_.out HW_.out hHeld ?_
      refine oZ 10 (some 35) (bm 35 8191) HT_.out (fun K hK => ?_)
      refine goesN Try.func28 #[.agg #[.int .i64 t110, .int .i64 t111, .string t112], .agg #[.int .i64 t113, .int .i64 t114, .string t115]] ?_
      with_reducible refine (impl_ValueSame.calls _ _ _ _ _ _ _ _ A47.out).mono ?_
      rintro e wy5 ⟨rfl, hb⟩
      refine ⟨_, rfl, ?_⟩
      replace BKz1 := aB BKz1 hb
      replace BKz2 := aB BKz2 hb
      replace BKz3 := aB BKz3 hb
      replace BKz4 := aB BKz4 hb
      replace BKz5 := aB BKz5 hb
      replace BKz6 := aB BKz6 hb
      replace HB := aS HB hb
      (try clear hb)
      (try clear hb2)
      (try clear hk)
      (try clear hi)
      refine hK.out _ _ ⟨cK BKz1.out 0, cK BKz1.out 1, cK BKz1.out 2, cK BKz2.out 0, cK BKz2.out 1, cK BKz2.out 2, cK BKz3.out 0, cK BKz3.out 1, cK BKz3.out 2, cK BKz4.out 0, cK BKz4.out 1, cK BKz4.out 2⟩ (fun hHeld => ?_)
      clear hK K
      refine nZ 35 ?_
      refine oZ 13 (some 38) (bm 35 16383) HT_.out (fun K hK => ?_)
      refine goesN Try.func29 #[.agg #[.int .i64 t110, .int .i64 t111, .string t112], .agg #[.int .i64 t113, .int .i64 t114, .string t115]] ?_
      with_reducible refine (spec_ValueSame.calls _ _ _ _ _ _ _ _ A48.out).mono ?_
      rintro e wy6 ⟨rfl, hb⟩
      refine ⟨_, rfl, ?_⟩
      replace BKz1 := aB BKz1 hb
      replace BKz2 := aB BKz2 hb
      replace BKz3 := aB BKz3 hb
      replace BKz4 := aB BKz4 hb
      replace BKz5 := aB BKz5 hb
      replace BKz6 := aB BKz6 hb
      replace HB := aS HB hb
      (try clear hb)
      (try clear hb2)
      (try clear hk)
      (try clear hi)
      refine hK.out _ _ ⟨cK BKz1.out 0, cK BKz1.out 1, cK BKz1.out 2, cK BKz2.out 0, cK BKz2.out 1, cK BKz2.out 2, cK BKz3.out 0, cK BKz3.out 1, cK BKz3.out 2, cK BKz4.out 0, cK BKz4.out 1, cK BKz4.out 2⟩ (fun hHeld => ?_)
      clear hK K
      refine nZ 38 ?_
      refine pZ 14 39 (bm 35 32767) HT_.out ?_
      refine pZ 15 40 (bm 35 65535) HT_.out ?_
      refine pZ 16 41 (bm 35 131071) HT_.out ?_
      refine pU 17 42 (bm 35 262143) HT_.out ?_
      refine pU 18 43 (bm 35 524287) HT_.out ?_
      refine pU 19 44 (bm 35 1048575) HT_.out ?_
      refine pU 20 45 (bm 35 2097151) HT_.out ?_
      refine pU 21 46 (bm 35 4194303) HT_.out ?_
      refine pZ 22 47 (bm 35 8388607) HT_.out ?_
      refine pZ 23 48 (bm 35 16777215) HT_.out ?_
      refine pU 24 49 (bm 35 33554431) HT_.out ?_
      refine pU 25 50 (bm 35 67108863) HT_.out ?_
      refine pU 26 51 (bm 35 134217727) HT_.out ?_
      refine pU 27 52 (bm 35 268435455) HT_.out ?_
      refine pU 28 53 (bm 35 536870911) HT_.out ?_
      refine pZ 29 54 (bm 35 1073741823) HT_.out ?_
      refine pZ 30 55 (bm 35 2147483647) HT_.out ?_
      refine pU 31 56 (bm 35 4294967295) HT_.out ?_
      refine pU 32 57 (bm 35 8589934591) HT_.out ?_
      refine pU 33 58 (bm 35 17179869183) HT_.out ?_
      refine pZ 34 59 (bm 35 34359738367) HT_.out ?_
      refine done_ (done_of HT_.out (by kernel_rfl)) ?_
      try go_wp2
      go_meet
      case rel => exact ⟨_, (true), rS, H', ⟨by first | omega | exact Nat.le_refl _⟩, ⟨(bX BKz1.out)⟩, ⟨(bX BKz2.out)⟩, ⟨(bX BKz3.out)⟩, ⟨(bX BKz4.out)⟩, ⟨(bX BKz5.out)⟩, ⟨(bX BKz6.out)⟩, ⟨(hX HB.out)⟩⟩
    rw [if_neg c49] at H
    have c49b0 : (t128 != t129) = false := by simpa using c49
    (try (have c49b1 : decide (t128 = t129) = true := by simpa using c49))
    (try (have c49b2 : (t128 == t129) = true := by simpa using c49))
    clear c49
    replace H := bE H; obtain ⟨t130, A56, H⟩ := H
    replace H := bE H; obtain ⟨t131, A57, H⟩ := H
    by_cases c58 : (t130 != t131) = true
    · rw [if_pos c58] at H
      have c58b0 : (t130 != t131) = true := c58
      (try (have c58b1 : decide (t130 = t131) = false := by simpa using c58))
      (try (have c58b2 : (t130 == t131) = false := by simpa using c58))
      (try (have c58b3 : ¬ (t130 = t131) := by simpa using c58))
      clear c58
      have H' := aM H
      clear H
      try go_wp2
      have ny1 : Aside0 (((((((wz10.setCell ⟨gbz5, 0, none⟩ (.int .i64 t118)).setCell ⟨gbz5, 1, none⟩ (.int .i64 t119)).setCell ⟨gbz5, 2, none⟩ (.string t120)).setCell ⟨gbz6, 0, none⟩ (.int .i64 t121)).setCell ⟨gbz6, 1, none⟩ (.int .i64 t122)).setCell ⟨gbz6, 2, none⟩ (.string t123)).heap[gbz1]? = some (.cells #[.int .i64 t102, .int .i64 t103, .string t104] 37 (0, 0))) := ⟨(bF BKz1.out)⟩
      have ny2 : Aside0 (((((((wz10.setCell ⟨gbz5, 0, none⟩ (.int .i64 t118)).setCell ⟨gbz5, 1, none⟩ (.int .i64 t119)).setCell ⟨gbz5, 2, none⟩ (.string t120)).setCell ⟨gbz6, 0, none⟩ (.int .i64 t121)).setCell ⟨gbz6, 1, none⟩ (.int .i64 t122)).setCell ⟨gbz6, 2, none⟩ (.string t123)).heap[gbz2]? = some (.cells #[.int .i64 t105, .int .i64 t106, .string t107] 37 (0, 0))) := ⟨(bF BKz2.out)⟩
      have ny3 : Aside0 (((((((wz10.setCell ⟨gbz5, 0, none⟩ (.int .i64 t118)).setCell ⟨gbz5, 1, none⟩ (.int .i64 t119)).setCell ⟨gbz5, 2, none⟩ (.string t120)).setCell ⟨gbz6, 0, none⟩ (.int .i64 t121)).setCell ⟨gbz6, 1, none⟩ (.int .i64 t122)).setCell ⟨gbz6, 2, none⟩ (.string t123)).heap[gbz3]? = some (.cells #[.int .i64 t110, .int .i64 t111, .string t112] 37 (0, 0))) := ⟨(bF BKz3.out)⟩
      have ny4 : Aside0 (((((((wz10.setCell ⟨gbz5, 0, none⟩ (.int .i64 t118)).setCell ⟨gbz5, 1, none⟩ (.int .i64 t119)).setCell ⟨gbz5, 2, none⟩ (.string t120)).setCell ⟨gbz6, 0, none⟩ (.int .i64 t121)).setCell ⟨gbz6, 1, none⟩ (.int .i64 t122)).setCell ⟨gbz6, 2, none⟩ (.string t123)).heap[gbz4]? = some (.cells #[.int .i64 t113, .int .i64 t114, .string t115] 37 (0, 0))) := ⟨(bF BKz4.out)⟩
      have ny5 : Aside0 (((((((wz10.setCell ⟨gbz5, 0, none⟩ (.int .i64 t118)).setCell ⟨gbz5, 1, none⟩ (.int .i64 t119)).setCell ⟨gbz5, 2, none⟩ (.string t120)).setCell ⟨gbz6, 0, none⟩ (.int .i64 t121)).setCell ⟨gbz6, 1, none⟩ (.int .i64 t122)).setCell ⟨gbz6, 2, none⟩ (.string t123)).heap[gbz5]? = some (.cells #[.int .i64 t118, .int .i64 t119, .string t120] 37 (0, 0))) := ⟨(bP BKz5.out)⟩
      have ny6 : Aside0 (((((((wz10.setCell ⟨gbz5, 0, none⟩ (.int .i64 t118)).setCell ⟨gbz5, 1, none⟩ (.int .i64 t119)).setCell ⟨gbz5, 2, none⟩ (.string t120)).setCell ⟨gbz6, 0, none⟩ (.int .i64 t121)).setCell ⟨gbz6, 1, none⟩ (.int .i64 t122)).setCell ⟨gbz6, 2, none⟩ (.string t123)).heap[gbz6]? = some (.cells #[.int .i64 t121, .int .i64 t122, .string t123] 37 (0, 0))) := ⟨(bP BKz6.out)⟩
      have ny7 : Aside0 (Below w.heap.size w ((((((wz10.setCell ⟨gbz5, 0, none⟩ (.int .i64 t118)).setCell ⟨gbz5, 1, none⟩ (.int .i64 t119)).setCell ⟨gbz5, 2, none⟩ (.string t120)).setCell ⟨gbz6, 0, none⟩ (.int .i64 t121)).setCell ⟨gbz6, 1, none⟩ (.int .i64 t122)).setCell ⟨gbz6, 2, none⟩ (.string t123))) := ⟨(hX HB.out)⟩
      (try clear BKz1)
      (try clear BKz2)
      (try clear BKz3)
      (try clear BKz4)
      (try clear BKz5)
      (try clear BKz6)
      (try clear HB)
      generalize ((((((wz10.setCell ⟨gbz5, 0, none⟩ (.int .i64 t118)).setCell ⟨gbz5, 1, none⟩ (.int .i64 t119)).setCell ⟨gbz5, 2, none⟩ (.string t120)).setCell ⟨gbz6, 0, none⟩ (.int .i64 t121)).setCell ⟨gbz6, 1, none⟩ (.int .i64 t122)).setCell ⟨gbz6, 2, none⟩ (.string t123)) = wy1 at ny1 ny2 ny3 ny4 ny5 ny6 ny7 ⊢
      have BKz1 := ny1
      have BKz2 := ny2
      have BKz3 := ny3
      have BKz4 := ny4
      have BKz5 := ny5
      have BKz6 := ny6
      have HB := ny7
      clear ny1 ny2 ny3 ny4 ny5 ny6 ny7
      replace BKz1 := aM (blk_drew BKz1.out)
      replace BKz2 := aM (blk_drew BKz2.out)
      replace BKz3 := aM (blk_drew BKz3.out)
      replace BKz4 := aM (blk_drew BKz4.out)
      replace BKz5 := aM (blk_drew BKz5.out)
      replace BKz6 := aM (blk_drew BKz6.out)
      replace HB := aM (below_drew1 HB.out)
      refine start_ (n := 35) (S := fun w' => w'.cell? ⟨gbz1, 0, none⟩ = some (.int .i64 t102) ∧ w'.cell? ⟨gbz1, 1, none⟩ = some (.int .i64 t103) ∧ w'.cell? ⟨gbz1, 2, none⟩ = some (.string t104) ∧ w'.cell? ⟨gbz2, 0, none⟩ = some (.int .i64 t105) ∧ w'.cell? ⟨gbz2, 1, none⟩ = some (.int .i64 t106) ∧ w'.cell? ⟨gbz2, 2, none⟩ = some (.string t107) ∧ w'.cell? ⟨gbz3, 0, none⟩ = some (.int .i64 t110) ∧ w'.cell? ⟨gbz3, 1, none⟩ = some (.int .i64 t111) ∧ w'.cell? ⟨gbz3, 2, none⟩ = some (.string t112) ∧ w'.cell? ⟨gbz4, 0, none⟩ = some (.int .i64 t113) ∧ w'.cell? ⟨gbz4, 1, none⟩ = some (.int .i64 t114) ∧ w'.cell? ⟨gbz4, 2, none⟩ = some (.string t115) ∧ w'.cell? ⟨gbz5, 0, none⟩ = some (.int .i64 t118) ∧ w'.cell? ⟨gbz5, 1, none⟩ = some (.int .i64 t119) ∧ w'.cell? ⟨gbz5, 2, none⟩ = some (.string t120)) (ds := []) (bm 35 0) (by kernel_rfl) rfl (by kernel_rfl) ⟨cK BKz1.out 0, cK BKz1.out 1, cK BKz1.out 2, cK BKz2.out 0, cK BKz2.out 1, cK BKz2.out 2, cK BKz3.out 0, cK BKz3.out 1, cK BKz3.out 2, cK BKz4.out 0, cK BKz4.out 1, cK BKz4.out 2, cK BKz5.out 0, cK BKz5.out 1, cK BKz5.out 2⟩ (fun hHeld => ?_); refine with_tabW laws_FnValues.tab6 laws_FnValues.bits6 (fun HT_ HW_ => ?_)
      generalize wy1.drew = wy2 at BKz1 BKz2 BKz3 BKz4 BKz5 BKz6 HB hHeld ⊢
      refine tZ 0 25 (bm 35 1) HT_.out HW_.out hHeld ?_
      refine tZ 1 26 (bm 35 3) HT_.out HW_.out hHeld ?_
      refine tZ 3 28 (bm 35 11) HT_.out HW_.out hHeld ?_
      refine tZ 4 29 (bm 35 27) HT_.out HW_.out hHeld ?_
      refine oZ 2 (some 27) (bm 35 31) HT_.out (fun K hK => ?_)
      refine goesN Try.func26 #[.agg #[.int .i64 t102, .int .i64 t103, .string t104], .agg #[.int .i64 t105, .int .i64 t106, .string t107]] ?_
      with_reducible refine (impl_ValueLess.calls _ _ _ _ _ _ _ _ _ A40.out).mono ?_
      rintro e wy3 ⟨rfl, hb⟩
      refine ⟨_, rfl, ?_⟩
      replace BKz1 := aB BKz1 hb
      replace BKz2 := aB BKz2 hb
      replace BKz3 := aB BKz3 hb
      replace BKz4 := aB BKz4 hb
      replace BKz5 := aB BKz5 hb
      replace BKz6 := aB BKz6 hb
      replace HB := aS HB hb
      (try clear hb)
      (try clear hb2)
      (try clear hk)
      (try clear hi)
      refine hK.out _ _ ⟨cK BKz1.out 0, cK BKz1.out 1, cK BKz1.out 2, cK BKz2.out 0, cK BKz2.out 1, cK BKz2.out 2, cK BKz3.out 0, cK BKz3.out 1, cK BKz3.out 2, cK BKz4.out 0, cK BKz4.out 1, cK BKz4.out 2, cK BKz5.out 0, cK BKz5.out 1, cK BKz5.out 2⟩ (fun hHeld => ?_)
      clear hK K
      refine nZ 27 ?_
      refine oZ 5 (some 30) (bm 35 63) HT_.out (fun K hK => ?_)
      refine goesN Try.func27 #[.agg #[.int .i64 t102, .int .i64 t103, .string t104], .agg #[.int .i64 t105, .int .i64 t106, .string t107]] ?_
      with_reducible refine (spec_ValueLess.calls _ _ _ _ _ _ _ _ A41.out).mono ?_
      rintro e wy4 ⟨rfl, hb⟩
      refine ⟨_, rfl, ?_⟩
      replace BKz1 := aB BKz1 hb
      replace BKz2 := aB BKz2 hb
      replace BKz3 := aB BKz3 hb
      replace BKz4 := aB BKz4 hb
      replace BKz5 := aB BKz5 hb
      replace BKz6 := aB BKz6 hb
      replace HB := aS HB hb
      (try clear hb)
      (try clear hb2)
      (try clear hk)
      (try clear hi)
      refine hK.out _ _ ⟨cK BKz1.out 0, cK BKz1.out 1, cK BKz1.out 2, cK BKz2.out 0, cK BKz2.out 1, cK BKz2.out 2, cK BKz3.out 0, cK BKz3.out 1, cK BKz3.out 2, cK BKz4.out 0, cK BKz4.out 1, cK BKz4.out 2, cK BKz5.out 0, cK BKz5.out 1, cK BKz5.out 2⟩ (fun hHeld => ?_)
      clear hK K
      refine nZ 30 ?_
      refine pZ 6 31 (bm 35 127) HT_.out ?_
      refine pZ 7 32 (bm 35 255) HT_.out ?_
      refine tZ 8 33 (bm 35 511) HT_.out HW_.out hHeld ?_
      refine tZ 9 34 (bm 35 1023) HT_.out HW_.out hHeld ?_
      refine tZ 11 36 (bm 35 3071) HT_.out HW_.out hHeld ?_
      refine tZ 12 37 (bm 35 7167) HT_.out HW_.out hHeld ?_
      refine oZ 10 (some 35) (bm 35 8191) HT_.out (fun K hK => ?_)
      refine goesN Try.func28 #[.agg #[.int .i64 t110, .int .i64 t111, .string t112], .agg #[.int .i64 t113, .int .i64 t114, .string t115]] ?_
      with_reducible refine (impl_ValueSame.calls _ _ _ _ _ _ _ _ A47.out).mono ?_
      rintro e wy5 ⟨rfl, hb⟩
      refine ⟨_, rfl, ?_⟩
      replace BKz1 := aB BKz1 hb
      replace BKz2 := aB BKz2 hb
      replace BKz3 := aB BKz3 hb
      replace BKz4 := aB BKz4 hb
      replace BKz5 := aB BKz5 hb
      replace BKz6 := aB BKz6 hb
      replace HB := aS HB hb
      (try clear hb)
      (try clear hb2)
      (try clear hk)
      (try clear hi)
      refine hK.out _ _ ⟨cK BKz1.out 0, cK BKz1.out 1, cK BKz1.out 2, cK BKz2.out 0, cK BKz2.out 1, cK BKz2.out 2, cK BKz3.out 0, cK BKz3.out 1, cK BKz3.out 2, cK BKz4.out 0, cK BKz4.out 1, cK BKz4.out 2, cK BKz5.out 0, cK BKz5.out 1, cK BKz5.out 2⟩ (fun hHeld => ?_)
      clear hK K
      refine nZ 35 ?_
      refine oZ 13 (some 38) (bm 35 16383) HT_.out (fun K hK => ?_)
      refine goesN Try.func29 #[.agg #[.int .i64 t110, .int .i64 t111, .string t112], .agg #[.int .i64 t113, .int .i64 t114, .string t115]] ?_
      with_reducible refine (spec_ValueSame.calls _ _ _ _ _ _ _ _ A48.out).mono ?_
      rintro e wy6 ⟨rfl, hb⟩
      refine ⟨_, rfl, ?_⟩
      replace BKz1 := aB BKz1 hb
      replace BKz2 := aB BKz2 hb
      replace BKz3 := aB BKz3 hb
      replace BKz4 := aB BKz4 hb
      replace BKz5 := aB BKz5 hb
      replace BKz6 := aB BKz6 hb
      replace HB := aS HB hb
      (try clear hb)
      (try clear hb2)
      (try clear hk)
      (try clear hi)
      refine hK.out _ _ ⟨cK BKz1.out 0, cK BKz1.out 1, cK BKz1.out 2, cK BKz2.out 0, cK BKz2.out 1, cK BKz2.out 2, cK BKz3.out 0, cK BKz3.out 1, cK BKz3.out 2, cK BKz4.out 0, cK BKz4.out 1, cK BKz4.out 2, cK BKz5.out 0, cK BKz5.out 1, cK BKz5.out 2⟩ (fun hHeld => ?_)
      clear hK K
      refine nZ 38 ?_
      refine pZ 14 39 (bm 35 32767) HT_.out ?_
      refine pZ 15 40 (bm 35 65535) HT_.out ?_
      refine pZ 16 41 (bm 35 131071) HT_.out ?_
      refine tZ 17 42 (bm 35 262143) HT_.out HW_.out hHeld ?_
      refine tZ 19 44 (bm 35 786431) HT_.out HW_.out hHeld ?_
      refine oZ 18 (some 43) (bm 35 1048575) HT_.out (fun K hK => ?_)
      refine goesN Try.func30 #[.agg #[.int .i64 t118, .int .i64 t119, .string t120]] ?_
      with_reducible refine (impl_ValueOk.calls _ _ _ _ _ A56.out).mono ?_
      rintro e wy7 ⟨rfl, hb⟩
      refine ⟨_, rfl, ?_⟩
      replace BKz1 := aB BKz1 hb
      replace BKz2 := aB BKz2 hb
      replace BKz3 := aB BKz3 hb
      replace BKz4 := aB BKz4 hb
      replace BKz5 := aB BKz5 hb
      replace BKz6 := aB BKz6 hb
      replace HB := aS HB hb
      (try clear hb)
      (try clear hb2)
      (try clear hk)
      (try clear hi)
      refine hK.out _ _ ⟨cK BKz1.out 0, cK BKz1.out 1, cK BKz1.out 2, cK BKz2.out 0, cK BKz2.out 1, cK BKz2.out 2, cK BKz3.out 0, cK BKz3.out 1, cK BKz3.out 2, cK BKz4.out 0, cK BKz4.out 1, cK BKz4.out 2, cK BKz5.out 0, cK BKz5.out 1, cK BKz5.out 2⟩ (fun hHeld => ?_)
      clear hK K
      refine nZ 43 ?_
      refine oZ 20 (some 45) (bm 35 2097151) HT_.out (fun K hK => ?_)
      refine goesN Try.func31 #[.agg #[.int .i64 t118, .int .i64 t119, .string t120]] ?_
      with_reducible refine (spec_ValueOk.calls _ _ _ _ _ A57.out).mono ?_
      rintro e wy8 ⟨rfl, hb⟩
      refine ⟨_, rfl, ?_⟩
      replace BKz1 := aB BKz1 hb
      replace BKz2 := aB BKz2 hb
      replace BKz3 := aB BKz3 hb
      replace BKz4 := aB BKz4 hb
      replace BKz5 := aB BKz5 hb
      replace BKz6 := aB BKz6 hb
      replace HB := aS HB hb
      (try clear hb)
      (try clear hb2)
      (try clear hk)
      (try clear hi)
      refine hK.out _ _ ⟨cK BKz1.out 0, cK BKz1.out 1, cK BKz1.out 2, cK BKz2.out 0, cK BKz2.out 1, cK BKz2.out 2, cK BKz3.out 0, cK BKz3.out 1, cK BKz3.out 2, cK BKz4.out 0, cK BKz4.out 1, cK BKz4.out 2, cK BKz5.out 0, cK BKz5.out 1, cK BKz5.out 2⟩ (fun hHeld => ?_)
      clear hK K
      refine nZ 45 ?_
      refine pZ 21 46 (bm 35 4194303) HT_.out ?_
      refine pZ 22 47 (bm 35 8388607) HT_.out ?_
      refine pZ 23 48 (bm 35 16777215) HT_.out ?_
      refine pU 24 49 (bm 35 33554431) HT_.out ?_
      refine pU 25 50 (bm 35 67108863) HT_.out ?_
      refine pU 26 51 (bm 35 134217727) HT_.out ?_
      refine pU 27 52 (bm 35 268435455) HT_.out ?_
      refine pU 28 53 (bm 35 536870911) HT_.out ?_
      refine pZ 29 54 (bm 35 1073741823) HT_.out ?_
      refine pZ 30 55 (bm 35 2147483647) HT_.out ?_
      refine pU 31 56 (bm 35 4294967295) HT_.out ?_
      refine pU 32 57 (bm 35 8589934591) HT_.out ?_
      refine pU 33 58 (bm 35 17179869183) HT_.out ?_
      refine pZ 34 59 (bm 35 34359738367) HT_.out ?_
      refine done_ (done_of HT_.out (by kernel_rfl)) ?_
      try go_wp2
      go_meet
      case rel => exact ⟨_, (true), rS, H', ⟨by first | omega | exact Nat.le_refl _⟩, ⟨(bX BKz1.out)⟩, ⟨(bX BKz2.out)⟩, ⟨(bX BKz3.out)⟩, ⟨(bX BKz4.out)⟩, ⟨(bX BKz5.out)⟩, ⟨(bX BKz6.out)⟩, ⟨(hX HB.out)⟩⟩
    rw [if_neg c58] at H
    have c58b0 : (t130 != t131) = false := by simpa using c58
    (try (have c58b1 : decide (t130 = t131) = true := by simpa using c58))
    (try (have c58b2 : (t130 == t131) = true := by simpa using c58))
    clear c58
    replace H := bE H; obtain ⟨t132, A67, H⟩ := H
    replace H := bE H; obtain ⟨t133, A68, H⟩ := H
    by_cases c69 : t132.toList = t133.toList
    case neg =>
      rw [if_neg c69] at H
      obtain ⟨c69b0, c69b1⟩ := eqF c69
      have H' := aM H
      clear H
      try go_wp2
      have ny1 : Aside0 (((((((wz10.setCell ⟨gbz5, 0, none⟩ (.int .i64 t118)).setCell ⟨gbz5, 1, none⟩ (.int .i64 t119)).setCell ⟨gbz5, 2, none⟩ (.string t120)).setCell ⟨gbz6, 0, none⟩ (.int .i64 t121)).setCell ⟨gbz6, 1, none⟩ (.int .i64 t122)).setCell ⟨gbz6, 2, none⟩ (.string t123)).heap[gbz1]? = some (.cells #[.int .i64 t102, .int .i64 t103, .string t104] 37 (0, 0))) := ⟨(bF BKz1.out)⟩
      have ny2 : Aside0 (((((((wz10.setCell ⟨gbz5, 0, none⟩ (.int .i64 t118)).setCell ⟨gbz5, 1, none⟩ (.int .i64 t119)).setCell ⟨gbz5, 2, none⟩ (.string t120)).setCell ⟨gbz6, 0, none⟩ (.int .i64 t121)).setCell ⟨gbz6, 1, none⟩ (.int .i64 t122)).setCell ⟨gbz6, 2, none⟩ (.string t123)).heap[gbz2]? = some (.cells #[.int .i64 t105, .int .i64 t106, .string t107] 37 (0, 0))) := ⟨(bF BKz2.out)⟩
      have ny3 : Aside0 (((((((wz10.setCell ⟨gbz5, 0, none⟩ (.int .i64 t118)).setCell ⟨gbz5, 1, none⟩ (.int .i64 t119)).setCell ⟨gbz5, 2, none⟩ (.string t120)).setCell ⟨gbz6, 0, none⟩ (.int .i64 t121)).setCell ⟨gbz6, 1, none⟩ (.int .i64 t122)).setCell ⟨gbz6, 2, none⟩ (.string t123)).heap[gbz3]? = some (.cells #[.int .i64 t110, .int .i64 t111, .string t112] 37 (0, 0))) := ⟨(bF BKz3.out)⟩
      have ny4 : Aside0 (((((((wz10.setCell ⟨gbz5, 0, none⟩ (.int .i64 t118)).setCell ⟨gbz5, 1, none⟩ (.int .i64 t119)).setCell ⟨gbz5, 2, none⟩ (.string t120)).setCell ⟨gbz6, 0, none⟩ (.int .i64 t121)).setCell ⟨gbz6, 1, none⟩ (.int .i64 t122)).setCell ⟨gbz6, 2, none⟩ (.string t123)).heap[gbz4]? = some (.cells #[.int .i64 t113, .int .i64 t114, .string t115] 37 (0, 0))) := ⟨(bF BKz4.out)⟩
      have ny5 : Aside0 (((((((wz10.setCell ⟨gbz5, 0, none⟩ (.int .i64 t118)).setCell ⟨gbz5, 1, none⟩ (.int .i64 t119)).setCell ⟨gbz5, 2, none⟩ (.string t120)).setCell ⟨gbz6, 0, none⟩ (.int .i64 t121)).setCell ⟨gbz6, 1, none⟩ (.int .i64 t122)).setCell ⟨gbz6, 2, none⟩ (.string t123)).heap[gbz5]? = some (.cells #[.int .i64 t118, .int .i64 t119, .string t120] 37 (0, 0))) := ⟨(bP BKz5.out)⟩
      have ny6 : Aside0 (((((((wz10.setCell ⟨gbz5, 0, none⟩ (.int .i64 t118)).setCell ⟨gbz5, 1, none⟩ (.int .i64 t119)).setCell ⟨gbz5, 2, none⟩ (.string t120)).setCell ⟨gbz6, 0, none⟩ (.int .i64 t121)).setCell ⟨gbz6, 1, none⟩ (.int .i64 t122)).setCell ⟨gbz6, 2, none⟩ (.string t123)).heap[gbz6]? = some (.cells #[.int .i64 t121, .int .i64 t122, .string t123] 37 (0, 0))) := ⟨(bP BKz6.out)⟩
      have ny7 : Aside0 (Below w.heap.size w ((((((wz10.setCell ⟨gbz5, 0, none⟩ (.int .i64 t118)).setCell ⟨gbz5, 1, none⟩ (.int .i64 t119)).setCell ⟨gbz5, 2, none⟩ (.string t120)).setCell ⟨gbz6, 0, none⟩ (.int .i64 t121)).setCell ⟨gbz6, 1, none⟩ (.int .i64 t122)).setCell ⟨gbz6, 2, none⟩ (.string t123))) := ⟨(hX HB.out)⟩
      (try clear BKz1)
      (try clear BKz2)
      (try clear BKz3)
      (try clear BKz4)
      (try clear BKz5)
      (try clear BKz6)
      (try clear HB)
      generalize ((((((wz10.setCell ⟨gbz5, 0, none⟩ (.int .i64 t118)).setCell ⟨gbz5, 1, none⟩ (.int .i64 t119)).setCell ⟨gbz5, 2, none⟩ (.string t120)).setCell ⟨gbz6, 0, none⟩ (.int .i64 t121)).setCell ⟨gbz6, 1, none⟩ (.int .i64 t122)).setCell ⟨gbz6, 2, none⟩ (.string t123)) = wy1 at ny1 ny2 ny3 ny4 ny5 ny6 ny7 ⊢
      have BKz1 := ny1
      have BKz2 := ny2
      have BKz3 := ny3
      have BKz4 := ny4
      have BKz5 := ny5
      have BKz6 := ny6
      have HB := ny7
      clear ny1 ny2 ny3 ny4 ny5 ny6 ny7
      replace BKz1 := aM (blk_drew BKz1.out)
      replace BKz2 := aM (blk_drew BKz2.out)
      replace BKz3 := aM (blk_drew BKz3.out)
      replace BKz4 := aM (blk_drew BKz4.out)
      replace BKz5 := aM (blk_drew BKz5.out)
      replace BKz6 := aM (blk_drew BKz6.out)
      replace HB := aM (below_drew1 HB.out)
      refine start_ (n := 35) (S := fun w' => w'.cell? ⟨gbz1, 0, none⟩ = some (.int .i64 t102) ∧ w'.cell? ⟨gbz1, 1, none⟩ = some (.int .i64 t103) ∧ w'.cell? ⟨gbz1, 2, none⟩ = some (.string t104) ∧ w'.cell? ⟨gbz2, 0, none⟩ = some (.int .i64 t105) ∧ w'.cell? ⟨gbz2, 1, none⟩ = some (.int .i64 t106) ∧ w'.cell? ⟨gbz2, 2, none⟩ = some (.string t107) ∧ w'.cell? ⟨gbz3, 0, none⟩ = some (.int .i64 t110) ∧ w'.cell? ⟨gbz3, 1, none⟩ = some (.int .i64 t111) ∧ w'.cell? ⟨gbz3, 2, none⟩ = some (.string t112) ∧ w'.cell? ⟨gbz4, 0, none⟩ = some (.int .i64 t113) ∧ w'.cell? ⟨gbz4, 1, none⟩ = some (.int .i64 t114) ∧ w'.cell? ⟨gbz4, 2, none⟩ = some (.string t115) ∧ w'.cell? ⟨gbz5, 0, none⟩ = some (.int .i64 t118) ∧ w'.cell? ⟨gbz5, 1, none⟩ = some (.int .i64 t119) ∧ w'.cell? ⟨gbz5, 2, none⟩ = some (.string t120) ∧ w'.cell? ⟨gbz6, 0, none⟩ = some (.int .i64 t121) ∧ w'.cell? ⟨gbz6, 1, none⟩ = some (.int .i64 t122) ∧ w'.cell? ⟨gbz6, 2, none⟩ = some (.string t123)) (ds := []) (bm 35 0) (by kernel_rfl) rfl (by kernel_rfl) ⟨cK BKz1.out 0, cK BKz1.out 1, cK BKz1.out 2, cK BKz2.out 0, cK BKz2.out 1, cK BKz2.out 2, cK BKz3.out 0, cK BKz3.out 1, cK BKz3.out 2, cK BKz4.out 0, cK BKz4.out 1, cK BKz4.out 2, cK BKz5.out 0, cK BKz5.out 1, cK BKz5.out 2, cK BKz6.out 0, cK BKz6.out 1, cK BKz6.out 2⟩ (fun hHeld => ?_); refine with_tabW laws_FnValues.tab6 laws_FnValues.bits6 (fun HT_ HW_ => ?_)
      generalize wy1.drew = wy2 at BKz1 BKz2 BKz3 BKz4 BKz5 BKz6 HB hHeld ⊢
      refine tZ 0 25 (bm 35 1) HT_.out HW_.out hHeld ?_
      refine tZ 1 26 (bm 35 3) HT_.out HW_.out hHeld ?_
      refine tZ 3 28 (bm 35 11) HT_.out HW_.out hHeld ?_
      refine tZ 4 29 (bm 35 27) HT_.out HW_.out hHeld ?_
      refine oZ 2 (some 27) (bm 35 31) HT_.out (fun K hK => ?_)
      refine goesN Try.func26 #[.agg #[.int .i64 t102, .int .i64 t103, .string t104], .agg #[.int .i64 t105, .int .i64 t106, .string t107]] ?_
      with_reducible refine (impl_ValueLess.calls _ _ _ _ _ _ _ _ _ A40.out).mono ?_
      rintro e wy3 ⟨rfl, hb⟩
      refine ⟨_, rfl, ?_⟩
      replace BKz1 := aB BKz1 hb
      replace BKz2 := aB BKz2 hb
      replace BKz3 := aB BKz3 hb
      replace BKz4 := aB BKz4 hb
      replace BKz5 := aB BKz5 hb
      replace BKz6 := aB BKz6 hb
      replace HB := aS HB hb
      (try clear hb)
      (try clear hb2)
      (try clear hk)
      (try clear hi)
      refine hK.out _ _ ⟨cK BKz1.out 0, cK BKz1.out 1, cK BKz1.out 2, cK BKz2.out 0, cK BKz2.out 1, cK BKz2.out 2, cK BKz3.out 0, cK BKz3.out 1, cK BKz3.out 2, cK BKz4.out 0, cK BKz4.out 1, cK BKz4.out 2, cK BKz5.out 0, cK BKz5.out 1, cK BKz5.out 2, cK BKz6.out 0, cK BKz6.out 1, cK BKz6.out 2⟩ (fun hHeld => ?_)
      clear hK K
      refine nZ 27 ?_
      refine oZ 5 (some 30) (bm 35 63) HT_.out (fun K hK => ?_)
      refine goesN Try.func27 #[.agg #[.int .i64 t102, .int .i64 t103, .string t104], .agg #[.int .i64 t105, .int .i64 t106, .string t107]] ?_
      with_reducible refine (spec_ValueLess.calls _ _ _ _ _ _ _ _ A41.out).mono ?_
      rintro e wy4 ⟨rfl, hb⟩
      refine ⟨_, rfl, ?_⟩
      replace BKz1 := aB BKz1 hb
      replace BKz2 := aB BKz2 hb
      replace BKz3 := aB BKz3 hb
      replace BKz4 := aB BKz4 hb
      replace BKz5 := aB BKz5 hb
      replace BKz6 := aB BKz6 hb
      replace HB := aS HB hb
      (try clear hb)
      (try clear hb2)
      (try clear hk)
      (try clear hi)
      refine hK.out _ _ ⟨cK BKz1.out 0, cK BKz1.out 1, cK BKz1.out 2, cK BKz2.out 0, cK BKz2.out 1, cK BKz2.out 2, cK BKz3.out 0, cK BKz3.out 1, cK BKz3.out 2, cK BKz4.out 0, cK BKz4.out 1, cK BKz4.out 2, cK BKz5.out 0, cK BKz5.out 1, cK BKz5.out 2, cK BKz6.out 0, cK BKz6.out 1, cK BKz6.out 2⟩ (fun hHeld => ?_)
      clear hK K
      refine nZ 30 ?_
      refine pZ 6 31 (bm 35 127) HT_.out ?_
      refine pZ 7 32 (bm 35 255) HT_.out ?_
      refine tZ 8 33 (bm 35 511) HT_.out HW_.out hHeld ?_
      refine tZ 9 34 (bm 35 1023) HT_.out HW_.out hHeld ?_
      refine tZ 11 36 (bm 35 3071) HT_.out HW_.out hHeld ?_
      refine tZ 12 37 (bm 35 7167) HT_.out HW_.out hHeld ?_
      refine oZ 10 (some 35) (bm 35 8191) HT_.out (fun K hK => ?_)
      refine goesN Try.func28 #[.agg #[.int .i64 t110, .int .i64 t111, .string t112], .agg #[.int .i64 t113, .int .i64 t114, .string t115]] ?_
      with_reducible refine (impl_ValueSame.calls _ _ _ _ _ _ _ _ A47.out).mono ?_
      rintro e wy5 ⟨rfl, hb⟩
      refine ⟨_, rfl, ?_⟩
      replace BKz1 := aB BKz1 hb
      replace BKz2 := aB BKz2 hb
      replace BKz3 := aB BKz3 hb
      replace BKz4 := aB BKz4 hb
      replace BKz5 := aB BKz5 hb
      replace BKz6 := aB BKz6 hb
      replace HB := aS HB hb
      (try clear hb)
      (try clear hb2)
      (try clear hk)
      (try clear hi)
      refine hK.out _ _ ⟨cK BKz1.out 0, cK BKz1.out 1, cK BKz1.out 2, cK BKz2.out 0, cK BKz2.out 1, cK BKz2.out 2, cK BKz3.out 0, cK BKz3.out 1, cK BKz3.out 2, cK BKz4.out 0, cK BKz4.out 1, cK BKz4.out 2, cK BKz5.out 0, cK BKz5.out 1, cK BKz5.out 2, cK BKz6.out 0, cK BKz6.out 1, cK BKz6.out 2⟩ (fun hHeld => ?_)
      clear hK K
      refine nZ 35 ?_
      refine oZ 13 (some 38) (bm 35 16383) HT_.out (fun K hK => ?_)
      refine goesN Try.func29 #[.agg #[.int .i64 t110, .int .i64 t111, .string t112], .agg #[.int .i64 t113, .int .i64 t114, .string t115]] ?_
      with_reducible refine (spec_ValueSame.calls _ _ _ _ _ _ _ _ A48.out).mono ?_
      rintro e wy6 ⟨rfl, hb⟩
      refine ⟨_, rfl, ?_⟩
      replace BKz1 := aB BKz1 hb
      replace BKz2 := aB BKz2 hb
      replace BKz3 := aB BKz3 hb
      replace BKz4 := aB BKz4 hb
      replace BKz5 := aB BKz5 hb
      replace BKz6 := aB BKz6 hb
      replace HB := aS HB hb
      (try clear hb)
      (try clear hb2)
      (try clear hk)
      (try clear hi)
      refine hK.out _ _ ⟨cK BKz1.out 0, cK BKz1.out 1, cK BKz1.out 2, cK BKz2.out 0, cK BKz2.out 1, cK BKz2.out 2, cK BKz3.out 0, cK BKz3.out 1, cK BKz3.out 2, cK BKz4.out 0, cK BKz4.out 1, cK BKz4.out 2, cK BKz5.out 0, cK BKz5.out 1, cK BKz5.out 2, cK BKz6.out 0, cK BKz6.out 1, cK BKz6.out 2⟩ (fun hHeld => ?_)
      clear hK K
      refine nZ 38 ?_
      refine pZ 14 39 (bm 35 32767) HT_.out ?_
      refine pZ 15 40 (bm 35 65535) HT_.out ?_
      refine pZ 16 41 (bm 35 131071) HT_.out ?_
      refine tZ 17 42 (bm 35 262143) HT_.out HW_.out hHeld ?_
      refine tZ 19 44 (bm 35 786431) HT_.out HW_.out hHeld ?_
      refine oZ 18 (some 43) (bm 35 1048575) HT_.out (fun K hK => ?_)
      refine goesN Try.func30 #[.agg #[.int .i64 t118, .int .i64 t119, .string t120]] ?_
      with_reducible refine (impl_ValueOk.calls _ _ _ _ _ A56.out).mono ?_
      rintro e wy7 ⟨rfl, hb⟩
      refine ⟨_, rfl, ?_⟩
      replace BKz1 := aB BKz1 hb
      replace BKz2 := aB BKz2 hb
      replace BKz3 := aB BKz3 hb
      replace BKz4 := aB BKz4 hb
      replace BKz5 := aB BKz5 hb
      replace BKz6 := aB BKz6 hb
      replace HB := aS HB hb
      (try clear hb)
      (try clear hb2)
      (try clear hk)
      (try clear hi)
      refine hK.out _ _ ⟨cK BKz1.out 0, cK BKz1.out 1, cK BKz1.out 2, cK BKz2.out 0, cK BKz2.out 1, cK BKz2.out 2, cK BKz3.out 0, cK BKz3.out 1, cK BKz3.out 2, cK BKz4.out 0, cK BKz4.out 1, cK BKz4.out 2, cK BKz5.out 0, cK BKz5.out 1, cK BKz5.out 2, cK BKz6.out 0, cK BKz6.out 1, cK BKz6.out 2⟩ (fun hHeld => ?_)
      clear hK K
      refine nZ 43 ?_
      refine oZ 20 (some 45) (bm 35 2097151) HT_.out (fun K hK => ?_)
      refine goesN Try.func31 #[.agg #[.int .i64 t118, .int .i64 t119, .string t120]] ?_
      with_reducible refine (spec_ValueOk.calls _ _ _ _ _ A57.out).mono ?_
      rintro e wy8 ⟨rfl, hb⟩
      refine ⟨_, rfl, ?_⟩
      replace BKz1 := aB BKz1 hb
      replace BKz2 := aB BKz2 hb
      replace BKz3 := aB BKz3 hb
      replace BKz4 := aB BKz4 hb
      replace BKz5 := aB BKz5 hb
      replace BKz6 := aB BKz6 hb
      replace HB := aS HB hb
      (try clear hb)
      (try clear hb2)
      (try clear hk)
      (try clear hi)
      refine hK.out _ _ ⟨cK BKz1.out 0, cK BKz1.out 1, cK BKz1.out 2, cK BKz2.out 0, cK BKz2.out 1, cK BKz2.out 2, cK BKz3.out 0, cK BKz3.out 1, cK BKz3.out 2, cK BKz4.out 0, cK BKz4.out 1, cK BKz4.out 2, cK BKz5.out 0, cK BKz5.out 1, cK BKz5.out 2, cK BKz6.out 0, cK BKz6.out 1, cK BKz6.out 2⟩ (fun hHeld => ?_)
      clear hK K
      refine nZ 45 ?_
      refine pZ 21 46 (bm 35 4194303) HT_.out ?_
      refine pZ 22 47 (bm 35 8388607) HT_.out ?_
      refine pZ 23 48 (bm 35 16777215) HT_.out ?_
      refine tZ 24 49 (bm 35 33554431) HT_.out HW_.out hHeld ?_
      refine tZ 26 51 (bm 35 100663295) HT_.out HW_.out hHeld ?_
      refine oZ 25 (some 50) (bm 35 134217727) HT_.out (fun K hK => ?_)
      refine goesN Try.func32 #[.agg #[.int .i64 t121, .int .i64 t122, .string t123]] ?_
      with_reducible refine (impl_ValueText.calls _ _ _ _ _ _ A67.out).mono ?_
      rintro e wy9 ⟨rfl, hb⟩
      refine ⟨_, rfl, ?_⟩
      replace BKz1 := aB BKz1 hb
      replace BKz2 := aB BKz2 hb
      replace BKz3 := aB BKz3 hb
      replace BKz4 := aB BKz4 hb
      replace BKz5 := aB BKz5 hb
      replace BKz6 := aB BKz6 hb
      replace HB := aS HB hb
      (try clear hb)
      (try clear hb2)
      (try clear hk)
      (try clear hi)
      refine hK.out _ _ ⟨cK BKz1.out 0, cK BKz1.out 1, cK BKz1.out 2, cK BKz2.out 0, cK BKz2.out 1, cK BKz2.out 2, cK BKz3.out 0, cK BKz3.out 1, cK BKz3.out 2, cK BKz4.out 0, cK BKz4.out 1, cK BKz4.out 2, cK BKz5.out 0, cK BKz5.out 1, cK BKz5.out 2, cK BKz6.out 0, cK BKz6.out 1, cK BKz6.out 2⟩ (fun hHeld => ?_)
      clear hK K
      refine nZ 50 ?_
      refine oZ 27 (some 52) (bm 35 268435455) HT_.out (fun K hK => ?_)
      refine goesN Try.func33 #[.agg #[.int .i64 t121, .int .i64 t122, .string t123]] ?_
      with_reducible refine (spec_ValueText.calls _ _ _ _ _ _ A68.out).mono ?_
      rintro e wy10 ⟨rfl, hb⟩
      refine ⟨_, rfl, ?_⟩
      replace BKz1 := aB BKz1 hb
      replace BKz2 := aB BKz2 hb
      replace BKz3 := aB BKz3 hb
      replace BKz4 := aB BKz4 hb
      replace BKz5 := aB BKz5 hb
      replace BKz6 := aB BKz6 hb
      replace HB := aS HB hb
      (try clear hb)
      (try clear hb2)
      (try clear hk)
      (try clear hi)
      refine hK.out _ _ ⟨cK BKz1.out 0, cK BKz1.out 1, cK BKz1.out 2, cK BKz2.out 0, cK BKz2.out 1, cK BKz2.out 2, cK BKz3.out 0, cK BKz3.out 1, cK BKz3.out 2, cK BKz4.out 0, cK BKz4.out 1, cK BKz4.out 2, cK BKz5.out 0, cK BKz5.out 1, cK BKz5.out 2, cK BKz6.out 0, cK BKz6.out 1, cK BKz6.out 2⟩ (fun hHeld => ?_)
      clear hK K
      refine nZ 52 ?_
      refine pZ 28 53 (bm 35 536870911) HT_.out ?_
      refine pZ 29 54 (bm 35 1073741823) HT_.out ?_
      refine pZ 30 55 (bm 35 2147483647) HT_.out ?_
      refine pU 31 56 (bm 35 4294967295) HT_.out ?_
      refine pU 32 57 (bm 35 8589934591) HT_.out ?_
      refine pU 33 58 (bm 35 17179869183) HT_.out ?_
      refine pZ 34 59 (bm 35 34359738367) HT_.out ?_
      refine done_ (done_of HT_.out (by kernel_rfl)) ?_
      try go_wp2
      go_meet
      case rel => exact ⟨_, (true), rS, H', ⟨by first | omega | exact Nat.le_refl _⟩, ⟨(bX BKz1.out)⟩, ⟨(bX BKz2.out)⟩, ⟨(bX BKz3.out)⟩, ⟨(bX BKz4.out)⟩, ⟨(bX BKz5.out)⟩, ⟨(bX BKz6.out)⟩, ⟨(hX HB.out)⟩⟩
    rw [if_pos c69] at H
    obtain ⟨c69b0, c69b1⟩ := eqT c69
    clear c69
    replace H := bE H; obtain ⟨t134, A70, H⟩ := H
    have H' := aM H
    clear H
    try go_wp2
    have ny1 : Aside0 (((((((wz10.setCell ⟨gbz5, 0, none⟩ (.int .i64 t118)).setCell ⟨gbz5, 1, none⟩ (.int .i64 t119)).setCell ⟨gbz5, 2, none⟩ (.string t120)).setCell ⟨gbz6, 0, none⟩ (.int .i64 t121)).setCell ⟨gbz6, 1, none⟩ (.int .i64 t122)).setCell ⟨gbz6, 2, none⟩ (.string t123)).heap[gbz1]? = some (.cells #[.int .i64 t102, .int .i64 t103, .string t104] 37 (0, 0))) := ⟨(bF BKz1.out)⟩
    have ny2 : Aside0 (((((((wz10.setCell ⟨gbz5, 0, none⟩ (.int .i64 t118)).setCell ⟨gbz5, 1, none⟩ (.int .i64 t119)).setCell ⟨gbz5, 2, none⟩ (.string t120)).setCell ⟨gbz6, 0, none⟩ (.int .i64 t121)).setCell ⟨gbz6, 1, none⟩ (.int .i64 t122)).setCell ⟨gbz6, 2, none⟩ (.string t123)).heap[gbz2]? = some (.cells #[.int .i64 t105, .int .i64 t106, .string t107] 37 (0, 0))) := ⟨(bF BKz2.out)⟩
    have ny3 : Aside0 (((((((wz10.setCell ⟨gbz5, 0, none⟩ (.int .i64 t118)).setCell ⟨gbz5, 1, none⟩ (.int .i64 t119)).setCell ⟨gbz5, 2, none⟩ (.string t120)).setCell ⟨gbz6, 0, none⟩ (.int .i64 t121)).setCell ⟨gbz6, 1, none⟩ (.int .i64 t122)).setCell ⟨gbz6, 2, none⟩ (.string t123)).heap[gbz3]? = some (.cells #[.int .i64 t110, .int .i64 t111, .string t112] 37 (0, 0))) := ⟨(bF BKz3.out)⟩
    have ny4 : Aside0 (((((((wz10.setCell ⟨gbz5, 0, none⟩ (.int .i64 t118)).setCell ⟨gbz5, 1, none⟩ (.int .i64 t119)).setCell ⟨gbz5, 2, none⟩ (.string t120)).setCell ⟨gbz6, 0, none⟩ (.int .i64 t121)).setCell ⟨gbz6, 1, none⟩ (.int .i64 t122)).setCell ⟨gbz6, 2, none⟩ (.string t123)).heap[gbz4]? = some (.cells #[.int .i64 t113, .int .i64 t114, .string t115] 37 (0, 0))) := ⟨(bF BKz4.out)⟩
    have ny5 : Aside0 (((((((wz10.setCell ⟨gbz5, 0, none⟩ (.int .i64 t118)).setCell ⟨gbz5, 1, none⟩ (.int .i64 t119)).setCell ⟨gbz5, 2, none⟩ (.string t120)).setCell ⟨gbz6, 0, none⟩ (.int .i64 t121)).setCell ⟨gbz6, 1, none⟩ (.int .i64 t122)).setCell ⟨gbz6, 2, none⟩ (.string t123)).heap[gbz5]? = some (.cells #[.int .i64 t118, .int .i64 t119, .string t120] 37 (0, 0))) := ⟨(bP BKz5.out)⟩
    have ny6 : Aside0 (((((((wz10.setCell ⟨gbz5, 0, none⟩ (.int .i64 t118)).setCell ⟨gbz5, 1, none⟩ (.int .i64 t119)).setCell ⟨gbz5, 2, none⟩ (.string t120)).setCell ⟨gbz6, 0, none⟩ (.int .i64 t121)).setCell ⟨gbz6, 1, none⟩ (.int .i64 t122)).setCell ⟨gbz6, 2, none⟩ (.string t123)).heap[gbz6]? = some (.cells #[.int .i64 t121, .int .i64 t122, .string t123] 37 (0, 0))) := ⟨(bP BKz6.out)⟩
    have ny7 : Aside0 (Below w.heap.size w ((((((wz10.setCell ⟨gbz5, 0, none⟩ (.int .i64 t118)).setCell ⟨gbz5, 1, none⟩ (.int .i64 t119)).setCell ⟨gbz5, 2, none⟩ (.string t120)).setCell ⟨gbz6, 0, none⟩ (.int .i64 t121)).setCell ⟨gbz6, 1, none⟩ (.int .i64 t122)).setCell ⟨gbz6, 2, none⟩ (.string t123))) := ⟨(hX HB.out)⟩
    (try clear BKz1)
    (try clear BKz2)
    (try clear BKz3)
    (try clear BKz4)
    (try clear BKz5)
    (try clear BKz6)
    (try clear HB)
    generalize ((((((wz10.setCell ⟨gbz5, 0, none⟩ (.int .i64 t118)).setCell ⟨gbz5, 1, none⟩ (.int .i64 t119)).setCell ⟨gbz5, 2, none⟩ (.string t120)).setCell ⟨gbz6, 0, none⟩ (.int .i64 t121)).setCell ⟨gbz6, 1, none⟩ (.int .i64 t122)).setCell ⟨gbz6, 2, none⟩ (.string t123)) = wy1 at ny1 ny2 ny3 ny4 ny5 ny6 ny7 ⊢
    have BKz1 := ny1
    have BKz2 := ny2
    have BKz3 := ny3
    have BKz4 := ny4
    have BKz5 := ny5
    have BKz6 := ny6
    have HB := ny7
    clear ny1 ny2 ny3 ny4 ny5 ny6 ny7
    replace BKz1 := aM (blk_drew BKz1.out)
    replace BKz2 := aM (blk_drew BKz2.out)
    replace BKz3 := aM (blk_drew BKz3.out)
    replace BKz4 := aM (blk_drew BKz4.out)
    replace BKz5 := aM (blk_drew BKz5.out)
    replace BKz6 := aM (blk_drew BKz6.out)
    replace HB := aM (below_drew1 HB.out)
    refine start_ (n := 35) (S := fun w' => w'.cell? ⟨gbz1, 0, none⟩ = some (.int .i64 t102) ∧ w'.cell? ⟨gbz1, 1, none⟩ = some (.int .i64 t103) ∧ w'.cell? ⟨gbz1, 2, none⟩ = some (.string t104) ∧ w'.cell? ⟨gbz2, 0, none⟩ = some (.int .i64 t105) ∧ w'.cell? ⟨gbz2, 1, none⟩ = some (.int .i64 t106) ∧ w'.cell? ⟨gbz2, 2, none⟩ = some (.string t107) ∧ w'.cell? ⟨gbz3, 0, none⟩ = some (.int .i64 t110) ∧ w'.cell? ⟨gbz3, 1, none⟩ = some (.int .i64 t111) ∧ w'.cell? ⟨gbz3, 2, none⟩ = some (.string t112) ∧ w'.cell? ⟨gbz4, 0, none⟩ = some (.int .i64 t113) ∧ w'.cell? ⟨gbz4, 1, none⟩ = some (.int .i64 t114) ∧ w'.cell? ⟨gbz4, 2, none⟩ = some (.string t115) ∧ w'.cell? ⟨gbz5, 0, none⟩ = some (.int .i64 t118) ∧ w'.cell? ⟨gbz5, 1, none⟩ = some (.int .i64 t119) ∧ w'.cell? ⟨gbz5, 2, none⟩ = some (.string t120) ∧ w'.cell? ⟨gbz6, 0, none⟩ = some (.int .i64 t121) ∧ w'.cell? ⟨gbz6, 1, none⟩ = some (.int .i64 t122) ∧ w'.cell? ⟨gbz6, 2, none⟩ = some (.string t123)) (ds := []) (bm 35 0) (by kernel_rfl) rfl (by kernel_rfl) ⟨cK BKz1.out 0, cK BKz1.out 1, cK BKz1.out 2, cK BKz2.out 0, cK BKz2.out 1, cK BKz2.out 2, cK BKz3.out 0, cK BKz3.out 1, cK BKz3.out 2, cK BKz4.out 0, cK BKz4.out 1, cK BKz4.out 2, cK BKz5.out 0, cK BKz5.out 1, cK BKz5.out 2, cK BKz6.out 0, cK BKz6.out 1, cK BKz6.out 2⟩ (fun hHeld => ?_); refine with_tabW laws_FnValues.tab6 laws_FnValues.bits6 (fun HT_ HW_ => ?_)
    generalize wy1.drew = wy2 at BKz1 BKz2 BKz3 BKz4 BKz5 BKz6 HB hHeld ⊢
    refine tZ 0 25 (bm 35 1) HT_.out HW_.out hHeld ?_
    refine tZ 1 26 (bm 35 3) HT_.out HW_.out hHeld ?_
    refine tZ 3 28 (bm 35 11) HT_.out HW_.out hHeld ?_
    refine tZ 4 29 (bm 35 27) HT_.out HW_.out hHeld ?_
    refine oZ 2 (some 27) (bm 35 31) HT_.out (fun K hK => ?_)
    refine goesN Try.func26 #[.agg #[.int .i64 t102, .int .i64 t103, .string t104], .agg #[.int .i64 t105, .int .i64 t106, .string t107]] ?_
    with_reducible refine (impl_ValueLess.calls _ _ _ _ _ _ _ _ _ A40.out).mono ?_
    rintro e wy3 ⟨rfl, hb⟩
    refine ⟨_, rfl, ?_⟩
    replace BKz1 := aB BKz1 hb
    replace BKz2 := aB BKz2 hb
    replace BKz3 := aB BKz3 hb
    replace BKz4 := aB BKz4 hb
    replace BKz5 := aB BKz5 hb
    replace BKz6 := aB BKz6 hb
    replace HB := aS HB hb
    (try clear hb)
    (try clear hb2)
    (try clear hk)
    (try clear hi)
    refine hK.out _ _ ⟨cK BKz1.out 0, cK BKz1.out 1, cK BKz1.out 2, cK BKz2.out 0, cK BKz2.out 1, cK BKz2.out 2, cK BKz3.out 0, cK BKz3.out 1, cK BKz3.out 2, cK BKz4.out 0, cK BKz4.out 1, cK BKz4.out 2, cK BKz5.out 0, cK BKz5.out 1, cK BKz5.out 2, cK BKz6.out 0, cK BKz6.out 1, cK BKz6.out 2⟩ (fun hHeld => ?_)
    clear hK K
    refine nZ 27 ?_
    refine oZ 5 (some 30) (bm 35 63) HT_.out (fun K hK => ?_)
    refine goesN Try.func27 #[.agg #[.int .i64 t102, .int .i64 t103, .string t104], .agg #[.int .i64 t105, .int .i64 t106, .string t107]] ?_
    with_reducible refine (spec_ValueLess.calls _ _ _ _ _ _ _ _ A41.out).mono ?_
    rintro e wy4 ⟨rfl, hb⟩
    refine ⟨_, rfl, ?_⟩
    replace BKz1 := aB BKz1 hb
    replace BKz2 := aB BKz2 hb
    replace BKz3 := aB BKz3 hb
    replace BKz4 := aB BKz4 hb
    replace BKz5 := aB BKz5 hb
    replace BKz6 := aB BKz6 hb
    replace HB := aS HB hb
    (try clear hb)
    (try clear hb2)
    (try clear hk)
    (try clear hi)
    refine hK.out _ _ ⟨cK BKz1.out 0, cK BKz1.out 1, cK BKz1.out 2, cK BKz2.out 0, cK BKz2.out 1, cK BKz2.out 2, cK BKz3.out 0, cK BKz3.out 1, cK BKz3.out 2, cK BKz4.out 0, cK BKz4.out 1, cK BKz4.out 2, cK BKz5.out 0, cK BKz5.out 1, cK BKz5.out 2, cK BKz6.out 0, cK BKz6.out 1, cK BKz6.out 2⟩ (fun hHeld => ?_)
    clear hK K
    refine nZ 30 ?_
    refine pZ 6 31 (bm 35 127) HT_.out ?_
    refine pZ 7 32 (bm 35 255) HT_.out ?_
    refine tZ 8 33 (bm 35 511) HT_.out HW_.out hHeld ?_
    refine tZ 9 34 (bm 35 1023) HT_.out HW_.out hHeld ?_
    refine tZ 11 36 (bm 35 3071) HT_.out HW_.out hHeld ?_
    refine tZ 12 37 (bm 35 7167) HT_.out HW_.out hHeld ?_
    refine oZ 10 (some 35) (bm 35 8191) HT_.out (fun K hK => ?_)
    refine goesN Try.func28 #[.agg #[.int .i64 t110, .int .i64 t111, .string t112], .agg #[.int .i64 t113, .int .i64 t114, .string t115]] ?_
    with_reducible refine (impl_ValueSame.calls _ _ _ _ _ _ _ _ A47.out).mono ?_
    rintro e wy5 ⟨rfl, hb⟩
    refine ⟨_, rfl, ?_⟩
    replace BKz1 := aB BKz1 hb
    replace BKz2 := aB BKz2 hb
    replace BKz3 := aB BKz3 hb
    replace BKz4 := aB BKz4 hb
    replace BKz5 := aB BKz5 hb
    replace BKz6 := aB BKz6 hb
    replace HB := aS HB hb
    (try clear hb)
    (try clear hb2)
    (try clear hk)
    (try clear hi)
    refine hK.out _ _ ⟨cK BKz1.out 0, cK BKz1.out 1, cK BKz1.out 2, cK BKz2.out 0, cK BKz2.out 1, cK BKz2.out 2, cK BKz3.out 0, cK BKz3.out 1, cK BKz3.out 2, cK BKz4.out 0, cK BKz4.out 1, cK BKz4.out 2, cK BKz5.out 0, cK BKz5.out 1, cK BKz5.out 2, cK BKz6.out 0, cK BKz6.out 1, cK BKz6.out 2⟩ (fun hHeld => ?_)
    clear hK K
    refine nZ 35 ?_
    refine oZ 13 (some 38) (bm 35 16383) HT_.out (fun K hK => ?_)
    refine goesN Try.func29 #[.agg #[.int .i64 t110, .int .i64 t111, .string t112], .agg #[.int .i64 t113, .int .i64 t114, .string t115]] ?_
    with_reducible refine (spec_ValueSame.calls _ _ _ _ _ _ _ _ A48.out).mono ?_
    rintro e wy6 ⟨rfl, hb⟩
    refine ⟨_, rfl, ?_⟩
    replace BKz1 := aB BKz1 hb
    replace BKz2 := aB BKz2 hb
    replace BKz3 := aB BKz3 hb
    replace BKz4 := aB BKz4 hb
    replace BKz5 := aB BKz5 hb
    replace BKz6 := aB BKz6 hb
    replace HB := aS HB hb
    (try clear hb)
    (try clear hb2)
    (try clear hk)
    (try clear hi)
    refine hK.out _ _ ⟨cK BKz1.out 0, cK BKz1.out 1, cK BKz1.out 2, cK BKz2.out 0, cK BKz2.out 1, cK BKz2.out 2, cK BKz3.out 0, cK BKz3.out 1, cK BKz3.out 2, cK BKz4.out 0, cK BKz4.out 1, cK BKz4.out 2, cK BKz5.out 0, cK BKz5.out 1, cK BKz5.out 2, cK BKz6.out 0, cK BKz6.out 1, cK BKz6.out 2⟩ (fun hHeld => ?_)
    clear hK K
    refine nZ 38 ?_
    refine pZ 14 39 (bm 35 32767) HT_.out ?_
    refine pZ 15 40 (bm 35 65535) HT_.out ?_
    refine pZ 16 41 (bm 35 131071) HT_.out ?_
    refine tZ 17 42 (bm 35 262143) HT_.out HW_.out hHeld ?_
    refine tZ 19 44 (bm 35 786431) HT_.out HW_.out hHeld ?_
    refine oZ 18 (some 43) (bm 35 1048575) HT_.out (fun K hK => ?_)
    refine goesN Try.func30 #[.agg #[.int .i64 t118, .int .i64 t119, .string t120]] ?_
    with_reducible refine (impl_ValueOk.calls _ _ _ _ _ A56.out).mono ?_
    rintro e wy7 ⟨rfl, hb⟩
    refine ⟨_, rfl, ?_⟩
    replace BKz1 := aB BKz1 hb
    replace BKz2 := aB BKz2 hb
    replace BKz3 := aB BKz3 hb
    replace BKz4 := aB BKz4 hb
    replace BKz5 := aB BKz5 hb
    replace BKz6 := aB BKz6 hb
    replace HB := aS HB hb
    (try clear hb)
    (try clear hb2)
    (try clear hk)
    (try clear hi)
    refine hK.out _ _ ⟨cK BKz1.out 0, cK BKz1.out 1, cK BKz1.out 2, cK BKz2.out 0, cK BKz2.out 1, cK BKz2.out 2, cK BKz3.out 0, cK BKz3.out 1, cK BKz3.out 2, cK BKz4.out 0, cK BKz4.out 1, cK BKz4.out 2, cK BKz5.out 0, cK BKz5.out 1, cK BKz5.out 2, cK BKz6.out 0, cK BKz6.out 1, cK BKz6.out 2⟩ (fun hHeld => ?_)
    clear hK K
    refine nZ 43 ?_
    refine oZ 20 (some 45) (bm 35 2097151) HT_.out (fun K hK => ?_)
    refine goesN Try.func31 #[.agg #[.int .i64 t118, .int .i64 t119, .string t120]] ?_
    with_reducible refine (spec_ValueOk.calls _ _ _ _ _ A57.out).mono ?_
    rintro e wy8 ⟨rfl, hb⟩
    refine ⟨_, rfl, ?_⟩
    replace BKz1 := aB BKz1 hb
    replace BKz2 := aB BKz2 hb
    replace BKz3 := aB BKz3 hb
    replace BKz4 := aB BKz4 hb
    replace BKz5 := aB BKz5 hb
    replace BKz6 := aB BKz6 hb
    replace HB := aS HB hb
    (try clear hb)
    (try clear hb2)
    (try clear hk)
    (try clear hi)
    refine hK.out _ _ ⟨cK BKz1.out 0, cK BKz1.out 1, cK BKz1.out 2, cK BKz2.out 0, cK BKz2.out 1, cK BKz2.out 2, cK BKz3.out 0, cK BKz3.out 1, cK BKz3.out 2, cK BKz4.out 0, cK BKz4.out 1, cK BKz4.out 2, cK BKz5.out 0, cK BKz5.out 1, cK BKz5.out 2, cK BKz6.out 0, cK BKz6.out 1, cK BKz6.out 2⟩ (fun hHeld => ?_)
    clear hK K
    refine nZ 45 ?_
    refine pZ 21 46 (bm 35 4194303) HT_.out ?_
    refine pZ 22 47 (bm 35 8388607) HT_.out ?_
    refine pZ 23 48 (bm 35 16777215) HT_.out ?_
    refine tZ 24 49 (bm 35 33554431) HT_.out HW_.out hHeld ?_
    refine tZ 26 51 (bm 35 100663295) HT_.out HW_.out hHeld ?_
    refine oZ 25 (some 50) (bm 35 134217727) HT_.out (fun K hK => ?_)
    refine goesN Try.func32 #[.agg #[.int .i64 t121, .int .i64 t122, .string t123]] ?_
    with_reducible refine (impl_ValueText.calls _ _ _ _ _ _ A67.out).mono ?_
    rintro e wy9 ⟨rfl, hb⟩
    refine ⟨_, rfl, ?_⟩
    replace BKz1 := aB BKz1 hb
    replace BKz2 := aB BKz2 hb
    replace BKz3 := aB BKz3 hb
    replace BKz4 := aB BKz4 hb
    replace BKz5 := aB BKz5 hb
    replace BKz6 := aB BKz6 hb
    replace HB := aS HB hb
    (try clear hb)
    (try clear hb2)
    (try clear hk)
    (try clear hi)
    refine hK.out _ _ ⟨cK BKz1.out 0, cK BKz1.out 1, cK BKz1.out 2, cK BKz2.out 0, cK BKz2.out 1, cK BKz2.out 2, cK BKz3.out 0, cK BKz3.out 1, cK BKz3.out 2, cK BKz4.out 0, cK BKz4.out 1, cK BKz4.out 2, cK BKz5.out 0, cK BKz5.out 1, cK BKz5.out 2, cK BKz6.out 0, cK BKz6.out 1, cK BKz6.out 2⟩ (fun hHeld => ?_)
    clear hK K
    refine nZ 50 ?_
    refine oZ 27 (some 52) (bm 35 268435455) HT_.out (fun K hK => ?_)
    refine goesN Try.func33 #[.agg #[.int .i64 t121, .int .i64 t122, .string t123]] ?_
    with_reducible refine (spec_ValueText.calls _ _ _ _ _ _ A68.out).mono ?_
    rintro e wy10 ⟨rfl, hb⟩
    refine ⟨_, rfl, ?_⟩
    replace BKz1 := aB BKz1 hb
    replace BKz2 := aB BKz2 hb
    replace BKz3 := aB BKz3 hb
    replace BKz4 := aB BKz4 hb
    replace BKz5 := aB BKz5 hb
    replace BKz6 := aB BKz6 hb
    replace HB := aS HB hb
    (try clear hb)
    (try clear hb2)
    (try clear hk)
    (try clear hi)
    refine hK.out _ _ ⟨cK BKz1.out 0, cK BKz1.out 1, cK BKz1.out 2, cK BKz2.out 0, cK BKz2.out 1, cK BKz2.out 2, cK BKz3.out 0, cK BKz3.out 1, cK BKz3.out 2, cK BKz4.out 0, cK BKz4.out 1, cK BKz4.out 2, cK BKz5.out 0, cK BKz5.out 1, cK BKz5.out 2, cK BKz6.out 0, cK BKz6.out 1, cK BKz6.out 2⟩ (fun hHeld => ?_)
    clear hK K
    refine nZ 52 ?_
    refine pZ 28 53 (bm 35 536870911) HT_.out ?_
    refine pZ 29 54 (bm 35 1073741823) HT_.out ?_
    refine pZ 30 55 (bm 35 2147483647) HT_.out ?_
    refine tZ 31 56 (bm 35 4294967295) HT_.out HW_.out hHeld ?_
    refine oZ 32 (some 57) (bm 35 8589934591) HT_.out (fun K hK => ?_)
    refine goesN Try.func32 #[.agg #[.int .i64 t121, .int .i64 t122, .string t123]] ?_
    with_reducible refine (impl_ValueText.calls _ _ _ _ _ _ A70.out).mono ?_
    rintro e wy11 ⟨rfl, hb⟩
    refine ⟨_, rfl, ?_⟩
    replace BKz1 := aB BKz1 hb
    replace BKz2 := aB BKz2 hb
    replace BKz3 := aB BKz3 hb
    replace BKz4 := aB BKz4 hb
    replace BKz5 := aB BKz5 hb
    replace BKz6 := aB BKz6 hb
    replace HB := aS HB hb
    (try clear hb)
    (try clear hb2)
    (try clear hk)
    (try clear hi)
    refine hK.out _ _ ⟨cK BKz1.out 0, cK BKz1.out 1, cK BKz1.out 2, cK BKz2.out 0, cK BKz2.out 1, cK BKz2.out 2, cK BKz3.out 0, cK BKz3.out 1, cK BKz3.out 2, cK BKz4.out 0, cK BKz4.out 1, cK BKz4.out 2, cK BKz5.out 0, cK BKz5.out 1, cK BKz5.out 2, cK BKz6.out 0, cK BKz6.out 1, cK BKz6.out 2⟩ (fun hHeld => ?_)
    clear hK K
    refine nZ 57 ?_
    refine pZ 33 58 (bm 35 17179869183) HT_.out ?_
    refine pZ 34 59 (bm 35 34359738367) HT_.out ?_
    refine done_ (done_of HT_.out (by kernel_rfl)) ?_
    try go_wp2
    go_meet
    case rel => exact ⟨_, ((t134.toList == ([] : List UInt8))), rS, H', ⟨by first | omega | exact Nat.le_refl _⟩, ⟨(bX BKz1.out)⟩, ⟨(bX BKz2.out)⟩, ⟨(bX BKz3.out)⟩, ⟨(bX BKz4.out)⟩, ⟨(bX BKz5.out)⟩, ⟨(bX BKz6.out)⟩, ⟨(hX HB.out)⟩⟩
  case rest =>
    clear HC8
    try clear p2
    try clear c3
    obtain ⟨kq, x59_7, rfl, HA, HJy1, BKz1, BKz2, BKz3, BKz4, BKz5, BKz6, HB⟩ := hcut
    cases kq with
    | zero => exact absurd HA.out (by simp [laws_FnValues.j0])
    | succ kj7 =>
      have H := HA.out
      clear HA
      simp only [laws_FnValues.j0] at H
      by_cases c92 : x59_7 = true
      · subst c92
        rw [if_pos rfl] at H
        obtain rfl := sI H
        go_wp2
        go_ret
        exact ⟨rE, (hX HB.out)⟩
      replace c92 := Bool.eq_false_iff.mpr c92
      subst c92
      rw [if_neg nft] at H
      replace H := bE H; obtain ⟨t135, A93, H⟩ := H
      by_cases c94 : t135 = true
      · subst c94
        rw [if_pos rfl] at H
        replace H := bE H; obtain ⟨t136, A95, H⟩ := H
        have hnbx1 := NBz1.out
        have hncx1 := NBz2.out
        have hnbx2 := NBz3.out
        have hncx2 := NBz4.out
        have hnbx3 := NBz7.out
        have hncx3 := NBz8.out
        have hnbx4 := NBz13.out
        have hncx4 := NBz14.out
        have hnbx5 := NBz21.out
        have hncx5 := NBz22.out
        obtain ⟨hczx1, hczx2, hczx3, hfzx1, hfzx2, hfzx3⟩ := cZ3 BKz1.out
        have hnbx6 := NBz5.out
        have hncx6 := NBz6.out
        have hnbx7 := NBz9.out
        have hncx7 := NBz10.out
        have hnbx8 := NBz15.out
        have hncx8 := NBz16.out
        have hnbx9 := NBz23.out
        have hncx9 := NBz24.out
        obtain ⟨hczx4, hczx5, hczx6, hfzx4, hfzx5, hfzx6⟩ := cZ3 BKz2.out
        go_wp2_with (first | ((with_reducible refine gate_callee (f := 28) rfl ?_); refine goesM 28 62 Try.func28 #[.agg #[.int .i64 t102, .int .i64 t103, .string t104], .agg #[.int .i64 t105, .int .i64 t106, .string t107]] ?_; refine (impl_ValueSame.calls _ _ _ _ _ _ _ _ A93.out).mono ?_; rintro e wx1 ⟨rfl, hb⟩; refine ⟨_, rfl, ?_⟩; replace BKz1 := aB BKz1 hb; replace BKz2 := aB BKz2 hb; replace BKz3 := aB BKz3 hb; replace BKz4 := aB BKz4 hb; replace BKz5 := aB BKz5 hb; replace BKz6 := aB BKz6 hb; replace HB := aS HB hb; clear hb; obtain ⟨hczx7, hczx8, hczx9, hfzx7, hfzx8, hfzx9⟩ := cZ3 BKz1.out; obtain ⟨hczx10, hczx11, hczx12, hfzx10, hfzx11, hfzx12⟩ := cZ3 BKz2.out; refine Stop.out ?_))
        refine ⟨?_⟩
        by_cases c96 : t136 = true
        · subst c96
          rw [if_pos rfl] at H
          obtain rfl := sI H
          go_wp2_with (first | ((with_reducible refine gate_callee (f := 26) rfl ?_); refine goesM 26 65 Try.func26 #[.agg #[.int .i64 t102, .int .i64 t103, .string t104], .agg #[.int .i64 t105, .int .i64 t106, .string t107]] ?_; refine (impl_ValueLess.calls _ _ _ _ _ _ _ _ _ A95.out).mono ?_; rintro e wx2 ⟨rfl, hb⟩; refine ⟨_, rfl, ?_⟩; replace BKz1 := aB BKz1 hb; replace BKz2 := aB BKz2 hb; replace BKz3 := aB BKz3 hb; replace BKz4 := aB BKz4 hb; replace BKz5 := aB BKz5 hb; replace BKz6 := aB BKz6 hb; replace HB := aS HB hb; clear hb))
          go_ret
          exact ⟨rE, (hX HB.out)⟩
        replace c96 := Bool.eq_false_iff.mpr c96
        subst c96
        rw [if_neg nft] at H
        replace H := bE H; obtain ⟨t137, A112, H⟩ := H
        obtain rfl := sI H
        go_wp2_with (first | ((with_reducible refine gate_callee (f := 26) rfl ?_); refine goesM 26 65 Try.func26 #[.agg #[.int .i64 t102, .int .i64 t103, .string t104], .agg #[.int .i64 t105, .int .i64 t106, .string t107]] ?_; refine (impl_ValueLess.calls _ _ _ _ _ _ _ _ _ A95.out).mono ?_; rintro e wx2 ⟨rfl, hb⟩; refine ⟨_, rfl, ?_⟩; replace BKz1 := aB BKz1 hb; replace BKz2 := aB BKz2 hb; replace BKz3 := aB BKz3 hb; replace BKz4 := aB BKz4 hb; replace BKz5 := aB BKz5 hb; replace BKz6 := aB BKz6 hb; replace HB := aS HB hb; clear hb; obtain ⟨hczx13, hczx14, hczx15, hfzx13, hfzx14, hfzx15⟩ := cZ3 BKz2.out; obtain ⟨hczx16, hczx17, hczx18, hfzx16, hfzx17, hfzx18⟩ := cZ3 BKz1.out) | (go_at_call 26; (with_reducible refine (impl_ValueLess.calls _ _ _ _ _ _ _ _ _ A112.out).mono ?_); rintro e wx3 ⟨rfl, hb⟩; replace BKz1 := aB BKz1 hb; replace BKz2 := aB BKz2 hb; replace BKz3 := aB BKz3 hb; replace BKz4 := aB BKz4 hb; replace BKz5 := aB BKz5 hb; replace BKz6 := aB BKz6 hb; replace HB := aS HB hb; clear hb))
        go_ret
        exact ⟨rE, (hX HB.out)⟩
      replace c94 := Bool.eq_false_iff.mpr c94
      subst c94
      rw [if_neg nft] at H
      replace H := bE H; obtain ⟨t138, A131, H⟩ := H
      replace H := bE H; obtain ⟨t139, A132, H⟩ := H
      obtain rfl := sI H
      have hnbx1 := NBz1.out
      have hncx1 := NBz2.out
      have hnbx2 := NBz3.out
      have hncx2 := NBz4.out
      have hnbx3 := NBz7.out
      have hncx3 := NBz8.out
      have hnbx4 := NBz13.out
      have hncx4 := NBz14.out
      have hnbx5 := NBz21.out
      have hncx5 := NBz22.out
      obtain ⟨hczx1, hczx2, hczx3, hfzx1, hfzx2, hfzx3⟩ := cZ3 BKz1.out
      have hnbx6 := NBz5.out
      have hncx6 := NBz6.out
      have hnbx7 := NBz9.out
      have hncx7 := NBz10.out
      have hnbx8 := NBz15.out
      have hncx8 := NBz16.out
      have hnbx9 := NBz23.out
      have hncx9 := NBz24.out
      obtain ⟨hczx4, hczx5, hczx6, hfzx4, hfzx5, hfzx6⟩ := cZ3 BKz2.out
      try go_wp2_with (first | (refine goesM 28 62 Try.func28 #[.agg #[.int .i64 t102, .int .i64 t103, .string t104], .agg #[.int .i64 t105, .int .i64 t106, .string t107]] ?_; refine (impl_ValueSame.calls _ _ _ _ _ _ _ _ A93.out).mono ?_; rintro e wx1 ⟨rfl, hb⟩; refine ⟨_, rfl, ?_⟩; replace BKz1 := aB BKz1 hb; replace BKz2 := aB BKz2 hb; replace BKz3 := aB BKz3 hb; replace BKz4 := aB BKz4 hb; replace BKz5 := aB BKz5 hb; replace BKz6 := aB BKz6 hb; replace HB := aS HB hb; clear hb))
      replace BKz1 := aM (blk_drew BKz1.out)
      replace BKz2 := aM (blk_drew BKz2.out)
      replace BKz3 := aM (blk_drew BKz3.out)
      replace BKz4 := aM (blk_drew BKz4.out)
      replace BKz5 := aM (blk_drew BKz5.out)
      replace BKz6 := aM (blk_drew BKz6.out)
      replace HB := aM (below_drew1 HB.out)
      refine start_ (n := 8) (S := fun w' => w'.cell? ⟨gbz1, 0, none⟩ = some (.int .i64 t102) ∧ w'.cell? ⟨gbz1, 1, none⟩ = some (.int .i64 t103) ∧ w'.cell? ⟨gbz1, 2, none⟩ = some (.string t104) ∧ w'.cell? ⟨gbz2, 0, none⟩ = some (.int .i64 t105) ∧ w'.cell? ⟨gbz2, 1, none⟩ = some (.int .i64 t106) ∧ w'.cell? ⟨gbz2, 2, none⟩ = some (.string t107)) (ds := []) (bm 8 0) (by kernel_rfl) rfl (by kernel_rfl) ⟨cK BKz1.out 0, cK BKz1.out 1, cK BKz1.out 2, cK BKz2.out 0, cK BKz2.out 1, cK BKz2.out 2⟩ (fun hHeld => ?_); refine with_tabW laws_FnValues.tab10 laws_FnValues.bits10 (fun HT_ HW_ => ?_)
      generalize wx1.drew = wx2 at BKz1 BKz2 BKz3 BKz4 BKz5 BKz6 HB hHeld ⊢
      refine tZ 0 73 (bm 8 1) HT_.out HW_.out hHeld ?_
      refine tZ 1 74 (bm 8 3) HT_.out HW_.out hHeld ?_
      refine tZ 3 76 (bm 8 11) HT_.out HW_.out hHeld ?_
      refine tZ 4 77 (bm 8 27) HT_.out HW_.out hHeld ?_
      refine oZ 2 (some 75) (bm 8 31) HT_.out (fun K hK => ?_)
      refine goesN Try.func26 #[.agg #[.int .i64 t102, .int .i64 t103, .string t104], .agg #[.int .i64 t105, .int .i64 t106, .string t107]] ?_
      with_reducible refine (impl_ValueLess.calls _ _ _ _ _ _ _ _ _ A131.out).mono ?_
      rintro e wx3 ⟨rfl, hb⟩
      refine ⟨_, rfl, ?_⟩
      replace BKz1 := aB BKz1 hb
      replace BKz2 := aB BKz2 hb
      replace BKz3 := aB BKz3 hb
      replace BKz4 := aB BKz4 hb
      replace BKz5 := aB BKz5 hb
      replace BKz6 := aB BKz6 hb
      replace HB := aS HB hb
      (try clear hb)
      (try clear hb2)
      (try clear hk)
      (try clear hi)
      refine hK.out _ _ ⟨cK BKz1.out 0, cK BKz1.out 1, cK BKz1.out 2, cK BKz2.out 0, cK BKz2.out 1, cK BKz2.out 2⟩ (fun hHeld => ?_)
      clear hK K
      refine nZ 75 ?_
      refine oZ 5 (some 78) (bm 8 63) HT_.out (fun K hK => ?_)
      refine goesN Try.func26 #[.agg #[.int .i64 t105, .int .i64 t106, .string t107], .agg #[.int .i64 t102, .int .i64 t103, .string t104]] ?_
      with_reducible refine (impl_ValueLess.calls _ _ _ _ _ _ _ _ _ A132.out).mono ?_
      rintro e wx4 ⟨rfl, hb⟩
      refine ⟨_, rfl, ?_⟩
      replace BKz1 := aB BKz1 hb
      replace BKz2 := aB BKz2 hb
      replace BKz3 := aB BKz3 hb
      replace BKz4 := aB BKz4 hb
      replace BKz5 := aB BKz5 hb
      replace BKz6 := aB BKz6 hb
      replace HB := aS HB hb
      (try clear hb)
      (try clear hb2)
      (try clear hk)
      (try clear hi)
      refine hK.out _ _ ⟨cK BKz1.out 0, cK BKz1.out 1, cK BKz1.out 2, cK BKz2.out 0, cK BKz2.out 1, cK BKz2.out 2⟩ (fun hHeld => ?_)
      clear hK K
      refine nZ 78 ?_
      refine pZ 6 79 (bm 8 127) HT_.out ?_
      refine pZ 7 2 (bm 8 255) HT_.out ?_
      refine done_ (done_of HT_.out (by kernel_rfl)) ?_
      try go_wp2
      go_ret
      exact ⟨rE, (hX HB.out)⟩
end Go.Proofs.Ytcedikpkbgofhaa.P2
namespace Go.Proofs.YtcedikpkbgofhaaZ
open Go.RowKit Go.Proofs.YtcedikpkbgofhaaW.PrintWords Go.Proofs.YtcedikpkbgofhaaW.PrintLast
def Opens {α : Type} (P : Program) (t : TypeId) (d : Kd α) (wf : α → Prop) : Prop :=
  ∀ (H : Type) (enc : TypeId × Value → H) (w : World) (fuel : Nat) (cs : List Value) (x : DataW H × List MemPlace),
    DataW.trod enc P w 0 (fun _ => true) true fuel t cs = some x → ∃ a, d.K w a cs ∧ wf a
theorem Opens.int {P : Program} {t : TypeId} {k : IntKind} (hu : P.underlying t = some (.int k)) : Opens P t (Kd.int k) (fun n => (Lit.int k n).wf = true) := by
  intro H enc w fuel cs x h
  obtain ⟨n, rfl, _, hw⟩ := DataW.trod_int hu h
  exact ⟨n, rfl, hw⟩
theorem Opens.bool {P : Program} {t : TypeId} (hu : P.underlying t = some .bool) : Opens P t Kd.bool (fun _ => True) := by
  intro H enc w fuel cs x h
  obtain ⟨n, rfl, _⟩ := DataW.trod_bool hu h
  exact ⟨n, rfl, trivial⟩
theorem Opens.string {P : Program} {t : TypeId} (hu : P.underlying t = some .string) : Opens P t Kd.string (fun s => s.size ≤ 9223372036854775807) := by
  intro H enc w fuel cs x h
  obtain ⟨n, rfl, _, hw⟩ := DataW.trod_string hu h
  exact ⟨n, rfl, by simpa [maxLen] using hw⟩
theorem exists_list {α : Type} (Q : Nat → α → Prop) : ∀ n, (∀ i, i < n → ∃ y, Q i y) → ∃ xs : List α, xs.length = n ∧ ∀ j p, xs[j]? = some p → Q j p
  | 0, _ => ⟨[], rfl, fun j p h => by simp at h⟩
  | n + 1, h => by
    obtain ⟨xs, hl, hx⟩ := exists_list Q n (fun i hi => h i (by omega))
    obtain ⟨y, hy⟩ := h n (by omega)
    refine ⟨xs ++ [y], by simp [hl], fun j p hj => ?_⟩
    by_cases hjn : j < n
    · rw [List.getElem?_append_left (by omega)] at hj
      exact hx j p hj
    · have hlt := (List.getElem?_eq_some_iff.1 hj).1
      rw [List.length_append, List.length_singleton, hl] at hlt
      obtain rfl : j = n := by omega
      rw [List.getElem?_append_right (by omega), hl, Nat.sub_self] at hj
      obtain rfl : y = p := by simpa using hj
      exact hy
theorem Opens.slice {α : Type} {P : Program} {t e : TypeId} {d : Kd α} {wf : α → Prop} (e' : Nat) (hu : P.underlying t = some (.slice e)) (hc : P.cellsOf e = d.sz) (he : Opens P e d wf) :
    Opens P t (Kd.slice e' d) (fun xs => xs.length ≤ 9223372036854775807 ∧ ∀ a ∈ xs, wf a) := by
  intro H enc w fuel cs x h
  rcases DataW.trod_slice hu h with ⟨rfl, _⟩ | ⟨a, len, cap, elems, rest, n, _, rfl, _, hb, hl, hm, hlen, hel, _, _⟩
  · exact ⟨[], ⟨none, 0, rfl, Nat.le_refl _, Kd.C_nil _ _⟩, by simp⟩
  · have each : ∀ i, i < len → ∃ y, wf y ∧ ∃ c, c.length = d.sz ∧ d.K w y c ∧ ∀ j u, c[j]? = some u → w.cell? (a.add (i * d.sz + j)) = some u := by
      intro i hi
      have h1 := hel i hi
      rw [List.getElem?_eq_getElem (by omega), hc, Option.bind_eq_some_iff] at h1
      obtain ⟨c, hcs, hy⟩ := h1
      obtain ⟨y, hK, hw⟩ := he _ _ _ _ _ _ hy
      refine ⟨y, hw, c, d.K_len hK, hK, fun j u hj => ?_⟩
      have h2 := World.cells?_some hcs
      rw [← Addr.add_add]
      have hjl := (List.getElem?_eq_some_iff.1 hj).1
      rw [← hj]
      exact (h2.2.2 j (by rw [← h2.2.1]; exact hjl))
    obtain ⟨xs, hxl, hxs⟩ := exists_list _ len each
    simp only [maxLen] at hm
    refine ⟨xs, ⟨some a, cap, by rw [hxl], by omega, rfl, by omega, fun _ => ⟨a, rfl, fun j p hj => ?_⟩⟩, by omega, fun y hy => ?_⟩
    · obtain ⟨_, c, hcl, hK, hcell⟩ := hxs j p hj
      exact ⟨c, hcl, hK, hcell⟩
    · obtain ⟨j, hj⟩ := List.getElem?_of_mem hy
      exact (hxs j y hj).1
def OpensF {α : Type} (P : Program) (fs : Array Field) (o : Nat) (d : Kd α) (wf : α → Prop) : Prop :=
  ∀ (H : Type) (enc : TypeId × Value → H) (w : World) (fuel : Nat) (cs : List Value) (xs : List (DataW H × List MemPlace)), cs.length = o + d.sz → xs.length = fs.size →
    (∀ (j : Nat) (f : Field), fs[j]? = some f → DataW.trod enc P w 0 (fun _ => true) true fuel f.type ((cs.drop f.offset).take (P.cellsOf f.type)) = xs[j]?) → ∃ a, d.K w a (cs.drop o) ∧ wf a
theorem OpensF.cons {α β : Type} {P : Program} {fs : Array Field} {o : Nat} {d : Kd α} {d' : Kd β} {wf : α → Prop} {wf' : β → Prop} (i : Nat) (f : Field) (hf : fs[i]? = some f) (ho : f.offset = o) (hc : P.cellsOf f.type = d.sz) (h : Opens P f.type d wf)
    (h' : OpensF P fs (o + d.sz) d' wf') : OpensF P fs o (Kd.pair d d') (fun x => wf x.1 ∧ wf' x.2) := by
  intro H enc w fuel cs xs hl hx hall
  have h1 := hall i f hf
  have hi : i < xs.length := by rw [hx]; exact (Array.getElem?_eq_some_iff.1 hf).1
  rw [List.getElem?_eq_getElem hi, ho, hc] at h1
  obtain ⟨a, hK, hw⟩ := h _ _ _ _ _ _ h1
  have hl' : cs.length = o + (d.sz + d'.sz) := hl
  obtain ⟨b, hK', hw'⟩ := h' H enc w fuel cs xs (by omega) hx hall
  refine ⟨(a, b), ⟨_, _, ?_, hK, hK'⟩, hw, hw'⟩
  rw [← List.drop_drop, List.take_append_drop]
theorem Opens.struct {α β : Type} {P : Program} {t : TypeId} {fs : Array Field} {d : Kd α} {wf : α → Prop} (f : β → α) (g : α → β) (hfg : ∀ a, f (g a) = a) (hu : P.underlying t = some (.struct fs)) (hc : P.cellsOf t = d.sz) (h : OpensF P fs 0 d wf) :
    Opens P t (Kd.iso d f) (fun b => wf (f b)) := by
  intro H enc w fuel cs x hx
  obtain ⟨xs, n, _, _, hl, hxl, hall⟩ := DataW.trod_struct hu hx
  obtain ⟨a, hK, hw⟩ := h H enc w n cs xs (by omega) hxl hall
  refine ⟨g a, ?_, ?_⟩
  · show d.K w (f (g a)) cs
    rw [hfg]; exact hK
  · show wf (f (g a))
    rw [hfg]; exact hw
theorem Opens.param {α : Type} {P : Program} {t : TypeId} {d : Kd α} {wf : α → Prop} (h : Opens P t d wf) {H : Type} {enc : TypeId × Value → H} {w : World} {v : Value} {D : DataW H} {ps : List MemPlace} (hv : DataW.Trod enc P w 0 (fun _ => true) true t v D ps) :
    ∃ a, d.K w a v.cells.toList ∧ wf a := by
  obtain ⟨fuel, hf⟩ := hv
  exact h _ _ _ _ _ _ hf
end Go.Proofs.YtcedikpkbgofhaaZ
namespace Go.Proofs.Ytcedikpkbgofhaa.P2
open Go.RowKit Go.Proofs.YtcedikpkbgofhaaW.PrintWords Go.Proofs.YtcedikpkbgofhaaW.PrintLast Go.Proofs.YtcedikpkbgofhaaZ
def PureFnValues : Prop := ∀ (x0 : List Int), (x0.length ≤ 9223372036854775807 ∧ ∀ y ∈ x0, (Lit.int .u8 y).wf = true) → ∃ k, laws_FnValues.f k x0 = some true
end Go.Proofs.Ytcedikpkbgofhaa.P2
namespace Go.Proofs.YtcedikpkbgofhaaW.PrintWords
section
variable {α : Type}
theorem Ev.shift {g : Nat → Option α} {r : α} (h : Ev (fun k => g (k + 1)) r) : Ev g r := Ev.step (fun _ => rfl) h
theorem Ev.val {a r : α} (h : a = r) : Ev (fun _ => some a) r := by subst h; exact Ev.now _
theorem Ev.of_eq {o : Option α} {r : α} (h : o = some r) : Ev (fun _ => o) r := by subst h; exact Ev.now _
theorem Ev.to {g : Nat → Option α} {a r : α} (h : Ev g a) (e : a = r) : Ev g r := e ▸ h
theorem Ev.pos {p : Prop} [Decidable p] {g f : Nat → Option α} {r : α} (h : p) (hg : Ev g r) : Ev (fun k => if p then g k else f k) r := by
  simp only [if_pos h]; exact hg
theorem Ev.neg {p : Prop} [Decidable p] {g f : Nat → Option α} {r : α} (h : ¬ p) (hf : Ev f r) : Ev (fun k => if p then g k else f k) r := by
  simp only [if_neg h]; exact hf
end
end Go.Proofs.YtcedikpkbgofhaaW.PrintWords
namespace Go.Proofs.YtcedikpkbgofhaaZ
open Go.RowKit Go.Proofs.YtcedikpkbgofhaaW.PrintWords
theorem back {n : Nat} {Q : Nat → Prop} (hn : Q n) (hs : ∀ i, i < n → Q (i + 1) → Q i) : ∀ i, i ≤ n → Q i := by
  intro i hi
  obtain ⟨d, rfl⟩ : ∃ d, n = i + d := ⟨n - i, by omega⟩
  clear hi
  induction d generalizing i with
  | zero => exact hn
  | succ d ih =>
    refine hs i (by omega) (ih (i + 1) ?_ ?_)
    · rw [show i + 1 + d = i + (d + 1) by omega]; exact hn
    · intro j hj; exact hs j (by omega)
theorem w64 {n : Int} (h1 : -9223372036854775808 ≤ n) (h2 : n < 9223372036854775808) : wrap64 n = n := by unfold wrap64; omega
theorem succ64 {i n : Nat} (h : i < n) (hn : n ≤ 9223372036854775807) : wrap64 ((i : Int) + 1) = ((i + 1 : Nat) : Int) := by
  rw [w64 (by omega) (by omega)]; simp
section
variable {τ σ : Type}
theorem getD_get {xs : List τ} {i : Nat} {x d : τ} (h : xs[i]? = some x) : xs.getD ((i : Int)).toNat d = x := by
  rw [Int.toNat_natCast, List.getD_eq_getElem?_getD, h]; rfl
end
theorem rd_get {xs : List Int} {i : Nat} {x : Int} (h : xs[i]? = some x) : rd xs i = x := getD_get h
end Go.Proofs.YtcedikpkbgofhaaZ
namespace Go.Proofs.Ytcedikpkbgofhaa.P2
abbrev iV := S37
end Go.Proofs.Ytcedikpkbgofhaa.P2
section
set_option linter.unusedSimpArgs false
set_option linter.unusedVariables false
namespace Go.Proofs.Ytcedikpkbgofhaa.P2
open Go.RowKit Go.Proofs.YtcedikpkbgofhaaW.PrintWords Go.Proofs.YtcedikpkbgofhaaW.PrintLast Go.Proofs.YtcedikpkbgofhaaZ
theorem u8_lt_or (a b : UInt8) : a < b ∨ a = b ∨ b < a := by
  rcases Nat.lt_trichotomy a.toNat b.toNat with h | h | h
  · exact Or.inl (UInt8.lt_iff_toNat_lt.mpr h)
  · exact Or.inr (Or.inl (UInt8.toNat_inj.mp h))
  · exact Or.inr (Or.inr (UInt8.lt_iff_toNat_lt.mpr h))
theorem u8_irr (a : UInt8) : ¬ a < a := fun h => Nat.lt_irrefl _ (UInt8.lt_iff_toNat_lt.mp h)
theorem u8_asym {a b : UInt8} (h : a < b) : ¬ b < a := fun h2 => Nat.lt_asymm (UInt8.lt_iff_toNat_lt.mp h) (UInt8.lt_iff_toNat_lt.mp h2)
theorem u8_ne {a b : UInt8} (h : a < b) : a ≠ b := fun e => u8_irr b (e ▸ h)
theorem cmpB_zero : ∀ a b : List UInt8, (Lib.compareBytes a b == 0) = (a == b)
  | [], [] => by simp [Lib.compareBytes]
  | [], _ :: _ => by simp [Lib.compareBytes]
  | _ :: _, [] => by simp [Lib.compareBytes]
  | a :: x, b :: y => by
    simp only [Lib.compareBytes]
    rcases u8_lt_or a b with h | h | h
    · have := u8_ne h
      simp [h, this]
    · subst h
      have ih := cmpB_zero x y
      simp only [u8_irr, if_false]
      rw [ih]
      simp
    · have := (u8_ne h).symm
      simp [h, this, u8_asym h]
theorem cmpB_lt : ∀ a b : List UInt8, decide (Lib.compareBytes a b < 0) = Op.bytesLess a b
  | [], [] => by simp [Lib.compareBytes, Op.bytesLess]
  | [], _ :: _ => by simp [Lib.compareBytes, Op.bytesLess]
  | _ :: _, [] => by simp [Lib.compareBytes, Op.bytesLess]
  | a :: x, b :: y => by
    simp only [Lib.compareBytes, Op.bytesLess]
    rcases u8_lt_or a b with h | h | h
    · simp [h]
    · subst h
      have ih := cmpB_lt x y
      simp only [u8_irr, if_false]
      rw [ih]
      simp
    · have := (u8_ne h).symm
      simp [h, this, u8_asym h]
def byV (a b : iV) : Int := if a.f0 < b.f0 then -1 else if a.f0 > b.f0 then 1 else if a.f1 < b.f1 then -1 else if a.f1 > b.f1 then 1 else Lib.compareBytes a.f2.toList b.f2.toList
theorem impl_byValue_ev (a b : iV) : Ev (fun k => impl_byValue.f k a.f0 a.f1 a.f2 b.f0 b.f1 b.f2) (byV a b) := by
  simp only [impl_byValue.f, byV]
  by_cases h1 : a.f0 < b.f0
  · simp only [h1, if_true]
    refine Ev.shift ?_
    simp only [impl_byValue.j0, if_true]
    exact Ev.now _
  · by_cases h2 : a.f0 = b.f0
    · have h3 : ¬ a.f0 > b.f0 := by omega
      simp only [h1, if_false, h2, if_true]
      refine Ev.shift ?_
      have h4 : ¬ b.f0 > b.f0 := by omega
      have h4' : ¬ b.f0 < b.f0 := by omega
      by_cases h5 : a.f1 < b.f1
      · simp only [impl_byValue.j0, h5, decide_true, if_true, h4, h4', if_false]
        exact Ev.now _
      · by_cases h6 : a.f1 > b.f1
        · simp only [impl_byValue.j0, h5, decide_false, Bool.false_eq_true, if_false, h4, h4', h6, if_true]
          exact Ev.now _
        · simp only [impl_byValue.j0, h5, decide_false, Bool.false_eq_true, if_false, h4, h4', h6, strings_Compare.f, Option.bind_some, ByteArray.toList_eq]
          exact Ev.now _
    · have h3 : a.f0 > b.f0 := by omega
      simp only [h1, h2, h3, if_false, if_true]
      refine Ev.shift ?_
      simp only [impl_byValue.j0, Bool.false_eq_true, if_false, h3, if_true]
      exact Ev.now _
theorem spec_ValueLess_eq (a b : iV) : spec_ValueLess.f a.f0 a.f1 a.f2 b.f0 b.f1 b.f2 = some (decide (byV a b < 0)) := by
  simp only [spec_ValueLess.f, byV]
  by_cases h1 : a.f0 < b.f0
  · have h2 : ¬ a.f0 = b.f0 := by omega
    simp [h1, h2]
  · by_cases h2 : a.f0 = b.f0
    · simp only [h2, if_true, Int.lt_irrefl, if_false, gt_iff_lt]
      by_cases h5 : a.f1 < b.f1
      · have h6 : ¬ a.f1 = b.f1 := by omega
        simp [h5, h6]
      · by_cases h6 : a.f1 = b.f1
        · simp [h6, cmpB_lt]
        · have h7 : b.f1 < a.f1 := by omega
          simp [h5, h6, h7]
    · have h3 : a.f0 > b.f0 := by omega
      simp [h1, h2, h3]
theorem byV_zero (a b : iV) : (byV a b == 0) = (a.f0 == b.f0 && (a.f1 == b.f1 && (a.f2.toList == b.f2.toList))) := by
  unfold byV
  by_cases h1 : a.f0 < b.f0
  · have h2 : ¬ a.f0 = b.f0 := by omega
    simp [h1, h2]
  · by_cases h2 : a.f0 = b.f0
    · simp only [h2, Int.lt_irrefl, if_false, gt_iff_lt]
      by_cases h5 : a.f1 < b.f1
      · have h6 : ¬ a.f1 = b.f1 := by omega
        simp [h5, h6]
      · by_cases h6 : a.f1 = b.f1
        · simp only [h6, Int.lt_irrefl, if_false, cmpB_zero, beq_self_eq_true, Bool.true_and]
        · have h7 : b.f1 < a.f1 := by omega
          simp [h5, h6, h7]
    · have h3 : a.f0 > b.f0 := by omega
      simp [h1, h2, h3]
theorem spec_ValueSame_eq (a b : iV) : spec_ValueSame.f a.f0 a.f1 a.f2 b.f0 b.f1 b.f2 = some (byV a b == 0) := by
  rw [byV_zero]; rfl
theorem impl_ValueLess_ev (a b : iV) : Ev (fun k => impl_ValueLess.f k a.f0 a.f1 a.f2 b.f0 b.f1 b.f2) (decide (byV a b < 0)) := by
  simp only [impl_ValueLess.f]
  refine Ev.bind (impl_byValue_ev a b) ?_
  exact Ev.now _
end Go.Proofs.Ytcedikpkbgofhaa.P2
end
section
set_option linter.unusedSimpArgs false
set_option linter.unusedVariables false
namespace Go.Proofs.Ytcedikpkbgofhaa.P2
open Go.RowKit Go.Proofs.YtcedikpkbgofhaaW.PrintWords Go.Proofs.YtcedikpkbgofhaaW.PrintLast Go.Proofs.YtcedikpkbgofhaaZ
def okV (a : iV) : Bool := (a.f0 == 0 && a.f1 == 0 && a.f2.size == 0) || (a.f0 == 1 && decide (0 ≤ a.f1 ∧ a.f1 ≤ 1) && a.f2.size == 0) || (a.f0 == 2 && decide (-1000000000000 ≤ a.f1 ∧ a.f1 ≤ 1000000000000) && a.f2.size == 0) || (a.f0 == 3 && a.f1 == 0 && decide (a.f2.size ≤ 20))
theorem ba_nil (s : ByteArray) : (s.toList == ([] : List UInt8)) = (s.size == 0) := by
  rw [ByteArray.toList_eq, Bool.eq_iff_iff]
  simp only [beq_iff_eq]
  constructor
  · intro h; show s.data.size = 0; rw [← Array.length_toList, h]; rfl
  · intro h; apply List.eq_nil_of_length_eq_zero; rw [Array.length_toList]; exact h
theorem spec_ValueOk_eq (a : iV) : spec_ValueOk.f a.f0 a.f1 a.f2 = some (okV a) := by
  simp only [spec_ValueOk.f, spec_l1In.f, okV, ba_nil]
  by_cases h0 : a.f0 = 0
  · by_cases h1 : a.f1 = 0 <;> simp [h0, h1]
  · by_cases h1 : a.f0 = 1
    · by_cases h2 : a.f1 ≥ 0 <;> by_cases h3 : a.f1 ≤ 1 <;> simp [h0, h1, h2, h3]
    · by_cases h2 : a.f0 = 2
      · by_cases h4 : a.f1 ≥ (-1000000000000) <;> by_cases h3 : a.f1 ≤ 1000000000000 <;> simp [h0, h1, h2, h3, h4]
      · by_cases h3 : a.f0 = 3
        · by_cases h4 : a.f1 = 0
          · simp [h3, h4]; omega
          · simp [h3, h4]
        · simp [h0, h1, h2, h3]
theorem impl_ValueOk_eq (a : iV) : impl_ValueOk.f a.f0 a.f1 a.f2 = some (okV a) := spec_ValueOk_eq a
end Go.Proofs.Ytcedikpkbgofhaa.P2
end
section
set_option linter.unusedSimpArgs false
set_option linter.unusedVariables false
namespace Go.Proofs.Ytcedikpkbgofhaa.P2
open Go.RowKit Go.Proofs.YtcedikpkbgofhaaW.PrintWords Go.Proofs.YtcedikpkbgofhaaW.PrintLast Go.Proofs.YtcedikpkbgofhaaZ
theorem digit_str {d : Int} (h0 : 0 ≤ d) (h1 : d ≤ 9) : strOfNums [(wrap64 (48 + d)) % 256] = ⟨#[UInt8.ofNat (48 + d.toNat)]⟩ := by
  have : d = 0 ∨ d = 1 ∨ d = 2 ∨ d = 3 ∨ d = 4 ∨ d = 5 ∨ d = 6 ∨ d = 7 ∨ d = 8 ∨ d = 9 := by omega
  rcases this with rfl | rfl | rfl | rfl | rfl | rfl | rfl | rfl | rfl | rfl <;> decide +kernel
theorem digit_enc {d : Int} (h0 : 0 ≤ d) (h1 : d ≤ 9) : Go.Utf8.encode (wrap32 (wrap64 (48 + d))) = ⟨#[UInt8.ofNat (48 + d.toNat)]⟩ := by
  have : d = 0 ∨ d = 1 ∨ d = 2 ∨ d = 3 ∨ d = 4 ∨ d = 5 ∨ d = 6 ∨ d = 7 ∨ d = 8 ∨ d = 9 := by omega
  rcases this with rfl | rfl | rfl | rfl | rfl | rfl | rfl | rfl | rfl | rfl <;> decide +kernel
def dgs (n : Nat) : ByteArray := if h : n < 10 then ⟨#[UInt8.ofNat (48 + n)]⟩ else dgs (n / 10) ++ ⟨#[UInt8.ofNat (48 + n % 10)]⟩
termination_by n
decreasing_by omega
theorem dgs_lt {n : Nat} (h : n < 10) : dgs n = ⟨#[UInt8.ofNat (48 + n)]⟩ := by rw [dgs, dif_pos h]
theorem dgs_ge {n : Nat} (h : ¬ n < 10) : dgs n = dgs (n / 10) ++ ⟨#[UInt8.ofNat (48 + n % 10)]⟩ := by rw [dgs, dif_neg h]
theorem dgs_size : ∀ (d n : Nat), n < 10 ^ (d + 1) → (dgs n).size ≤ d + 1 := by
  intro d
  induction d with
  | zero =>
    intro n h
    rw [dgs_lt (by simpa using h)]
    exact Nat.le_refl _
  | succ d ih =>
    intro n h
    by_cases hn : n < 10
    · rw [dgs_lt hn]; show 1 ≤ _; omega
    · rw [dgs_ge hn, ByteArray.size_append]
      have := ih (n / 10) (by rw [Nat.pow_succ] at h; omega)
      show _ + 1 ≤ _
      omega
def dstr (n : Int) : ByteArray := if n < 0 then ⟨#[45]⟩ ++ dgs n.natAbs else dgs n.natAbs
theorem append_assoc_ (a b c : ByteArray) : a ++ b ++ c = a ++ (b ++ c) := ByteArray.append_assoc
theorem empty_append_ (a : ByteArray) : (⟨#[]⟩ : ByteArray) ++ a = a := ByteArray.empty_append
theorem append_empty_ (a : ByteArray) : a ++ (⟨#[]⟩ : ByteArray) = a := ByteArray.append_empty
theorem tdiv_pos (m : Nat) : Int.tdiv (m : Int) 10 = ((m / 10 : Nat) : Int) := rfl
theorem tdiv_neg (m : Nat) : Int.tdiv (-(m : Int)) 10 = -((m / 10 : Nat) : Int) := by rw [Int.neg_tdiv]; rfl
theorem tmod_pos (m : Nat) : Int.tmod (m : Int) 10 = ((m % 10 : Nat) : Int) := rfl
theorem tmod_neg (m : Nat) : Int.tmod (-(m : Int)) 10 = -((m % 10 : Nat) : Int) := by rw [Int.neg_tmod]; rfl
end Go.Proofs.Ytcedikpkbgofhaa.P2
end
section
set_option linter.unusedSimpArgs false
set_option linter.unusedVariables false
namespace Go.Proofs.Ytcedikpkbgofhaa.P2
open Go.RowKit Go.Proofs.YtcedikpkbgofhaaW.PrintWords Go.Proofs.YtcedikpkbgofhaaW.PrintLast Go.Proofs.YtcedikpkbgofhaaZ
theorem spec_loop (b : Bool) : ∀ (d m : Nat) (neg : Bool) (out : ByteArray), m < 10 ^ d → m ≤ 9223372036854775808 → (neg = false → m < 9223372036854775808) → out.size + d ≤ 100 →
    Ev (fun k => spec_Digits.l0 k (if neg then -(m : Int) else (m : Int)) b out) ((if b then (⟨#[45]⟩ : ByteArray) else ⟨#[]⟩) ++ ((if m = 0 then ⟨#[]⟩ else dgs m) ++ out)) := by
  intro d
  induction d with
  | zero =>
    intro m neg out h _ _ hs
    obtain rfl : m = 0 := by simpa using h
    refine Ev.shift ?_
    have e : (if neg then -((0 : Nat) : Int) else ((0 : Nat) : Int)) = 0 := by cases neg <;> rfl
    simp only [e, spec_Digits.l0, if_true, empty_append_]
    cases b with
    | true =>
      have : 1 + out.size ≤ 9223372036854775807 := by omega
      simp only [this, if_true]
      exact Ev.now _
    | false =>
      simp only [Bool.false_eq_true, if_false, empty_append_]
      exact Ev.now _
  | succ d ih =>
    intro m neg out h hm hn hs
    by_cases h0 : m = 0
    · subst h0
      refine Ev.shift ?_
      have e : (if neg then -((0 : Nat) : Int) else ((0 : Nat) : Int)) = 0 := by cases neg <;> rfl
      simp only [e, spec_Digits.l0, if_true, empty_append_]
      cases b with
      | true =>
        have : 1 + out.size ≤ 9223372036854775807 := by omega
        simp only [this, if_true]
        exact Ev.now _
      | false =>
        simp only [Bool.false_eq_true, if_false, empty_append_]
        exact Ev.now _
    · have hd := ih (m / 10) neg (⟨#[UInt8.ofNat (48 + m % 10)]⟩ ++ out) (by rw [Nat.pow_succ] at h; omega) (by omega) (by intro h; have := hn h; omega)
        (by rw [ByteArray.size_append]; show 1 + _ + _ ≤ _; omega)
      have hsz : (⟨#[UInt8.ofNat (48 + m % 10)]⟩ : ByteArray).size + out.size ≤ 9223372036854775807 := by show 1 + out.size ≤ _; omega
      have hdig : strOfNums [(wrap64 (48 + ((m % 10 : Nat) : Int))) % 256] = ⟨#[UInt8.ofNat (48 + m % 10)]⟩ := digit_str (by omega) (by omega)
      have hres : (if m / 10 = 0 then (⟨#[]⟩ : ByteArray) else dgs (m / 10)) ++ (⟨#[UInt8.ofNat (48 + m % 10)]⟩ ++ out) = (if m = 0 then ⟨#[]⟩ else dgs m) ++ out := by
        rw [if_neg h0]
        by_cases h9 : m < 10
        · rw [if_pos (by omega), dgs_lt h9, empty_append_, Nat.mod_eq_of_lt h9]
        · rw [if_neg (by omega), dgs_ge h9, append_assoc_]
      rw [hres] at hd
      refine Ev.shift ?_
      cases neg with
      | false =>
        have hm' := hn rfl
        have c1 : ¬ ((m : Int) = 0) := by omega
        have c2 : ¬ (((m % 10 : Nat) : Int) < 0) := by omega
        have c3 : wrap64 ((m / 10 : Nat) : Int) = ((m / 10 : Nat) : Int) := w64 (by omega) (by omega)
        simp only [Bool.false_eq_true, if_false] at hd
        simp only [Bool.false_eq_true, if_false, spec_Digits.l0, c1, tmod_pos, c2, Option.bind_some, hdig, hsz, if_true, tdiv_pos, c3]
        exact hd
      | true =>
        have c1 : ¬ (-(m : Int) = 0) := by omega
        have c3 : wrap64 (-((m / 10 : Nat) : Int)) = -((m / 10 : Nat) : Int) := w64 (by omega) (by omega)
        simp only [if_true] at hd
        by_cases hz : m % 10 = 0
        · have c2 : ¬ (-((m % 10 : Nat) : Int) < 0) := by omega
          have hdig' : strOfNums [(wrap64 (48 + -((m % 10 : Nat) : Int))) % 256] = ⟨#[UInt8.ofNat (48 + m % 10)]⟩ := by rw [hz]; decide +kernel
          simp only [if_true, spec_Digits.l0, c1, if_false, tmod_neg, c2, Option.bind_some, hdig', hsz, tdiv_neg, c3]
          exact hd
        · have c2 : -((m % 10 : Nat) : Int) < 0 := by omega
          have c4 : wrap64 (-(-((m % 10 : Nat) : Int))) = ((m % 10 : Nat) : Int) := by rw [Int.neg_neg]; exact w64 (by omega) (by omega)
          simp only [if_true, spec_Digits.l0, c1, if_false, tmod_neg, c2, c4, Option.bind_some, hdig, hsz, tdiv_neg, c3]
          exact hd
theorem spec_Digits_ev (n : Int) (h0 : -9223372036854775808 ≤ n) (h1 : n < 9223372036854775808) : Ev (fun k => spec_Digits.f k n) (dstr n) := by
  by_cases hz : n = 0
  · subst hz
    simp only [spec_Digits.f, if_true]
    refine Ev.val ?_
    unfold dstr
    rw [if_neg (by omega)]
    exact (dgs_lt (n := 0) (by decide)).symm
  · have h := spec_loop (decide (n < 0)) 19 n.natAbs (decide (n < 0)) ⟨#[]⟩ (by omega) (by omega) (by intro h; have : ¬ n < 0 := of_decide_eq_false h; omega) (by show 0 + 19 ≤ 100; omega)
    have e : (if decide (n < 0) = true then -(n.natAbs : Int) else (n.natAbs : Int)) = n := by
      by_cases hn : n < 0
      · rw [if_pos (decide_eq_true hn)]; omega
      · rw [if_neg (by simpa using hn)]; omega
    rw [e] at h
    simp only [spec_Digits.f, hz, if_false]
    refine h.to ?_
    unfold dstr
    rw [append_empty_, if_neg (show ¬ n.natAbs = 0 by omega)]
    by_cases hn : n < 0
    · rw [if_pos (decide_eq_true hn), if_pos hn]
    · rw [if_neg (by simpa using hn), if_neg hn, empty_append_]
theorem impl_Digits_nat : ∀ (d m : Nat), m < 10 ^ (d + 1) → m < 9223372036854775808 → d ≤ 30 → Ev (fun k => impl_Digits.f k (m : Int)) (dgs m) := by
  intro d
  induction d with
  | zero =>
    intro m h hm _
    have h9 : m < 10 := by simpa using h
    refine Ev.shift ?_
    have c1 : ¬ ((m : Int) < 0) := by omega
    have c2 : (m : Int) < 10 := by omega
    simp only [impl_Digits.f, c1, if_false]
    refine Ev.shift ?_
    simp only [impl_Digits.j0, Bool.false_eq_true, c1, if_false, c2, if_true, digit_enc (d := (m : Int)) (by omega) (by omega)]
    refine Ev.val ?_
    rw [dgs_lt h9, Int.toNat_natCast]
  | succ d ih =>
    intro m h hm hd
    by_cases h9 : m < 10
    · exact ih m (by have : 10 ^ 1 ≤ 10 ^ (d + 1) := Nat.pow_le_pow_right (by decide) (by omega); omega) hm (by omega)
    · have h1 := ih (m / 10) (by rw [Nat.pow_succ] at h; omega) (by omega) (by omega)
      have hs := dgs_size 18 (m / 10) (by omega)
      refine Ev.shift ?_
      have c1 : ¬ ((m : Int) < 0) := by omega
      have c2 : ¬ ((m : Int) < 10) := by omega
      simp only [impl_Digits.f, c1, if_false]
      refine Ev.shift ?_
      have e1 : wrap64 ((m / 10 : Nat) : Int) = ((m / 10 : Nat) : Int) := w64 (by omega) (by omega)
      have e2 : Go.Utf8.encode (wrap32 (wrap64 (48 + ((m % 10 : Nat) : Int)))) = ⟨#[UInt8.ofNat (48 + m % 10)]⟩ := digit_enc (by omega) (by omega)
      have c3 : (dgs (m / 10)).size + (⟨#[UInt8.ofNat (48 + m % 10)]⟩ : ByteArray).size ≤ 9223372036854775807 := by show _ + 1 ≤ _; omega
      simp only [impl_Digits.j0, Bool.false_eq_true, c1, if_false, c2, tdiv_pos, tmod_pos, e1, e2]
      refine Ev.bind h1 ?_
      simp only [c3, if_true]
      exact Ev.val (dgs_ge h9).symm
theorem impl_Digits_ev (n : Int) (h0 : -9223372036854775808 ≤ n) (h1 : n < 9223372036854775808) : Ev (fun k => impl_Digits.f k n) (dstr n) := by
  by_cases hn : n < 0
  · obtain ⟨m, rfl⟩ : ∃ m : Nat, n = -(m : Int) := ⟨n.natAbs, by omega⟩
    have ed : dstr (-(m : Int)) = ⟨#[45]⟩ ++ dgs m := by unfold dstr; rw [if_pos hn, Int.natAbs_neg, Int.natAbs_natCast]
    rw [ed]
    refine Ev.shift ?_
    simp only [impl_Digits.f, hn, if_true]
    refine Ev.shift ?_
    by_cases h9 : -(m : Int) > -10
    · have hd := impl_Digits_nat 18 m (by omega) (by omega) (by decide)
      have hs := dgs_size 18 m (by omega)
      have e1 : wrap64 (-(-(m : Int))) = (m : Int) := by rw [Int.neg_neg]; exact w64 (by omega) (by omega)
      have c : 1 + (dgs m).size ≤ 9223372036854775807 := by omega
      simp only [impl_Digits.j0, h9, decide_true, if_true, e1]
      refine Ev.bind hd ?_
      simp only [c, if_true]
      exact Ev.now _
    · have hq : Ev (fun k => impl_Digits.f k (-((m / 10 : Nat) : Int))) (dstr (-((m / 10 : Nat) : Int))) := impl_Digits_ev (-((m / 10 : Nat) : Int)) (by omega) (by omega)
      have hr := impl_Digits_nat 18 (m % 10) (by omega) (by omega) (by decide)
      have e0 : dstr (-((m / 10 : Nat) : Int)) = ⟨#[45]⟩ ++ dgs (m / 10) := by unfold dstr; rw [if_pos (by omega), Int.natAbs_neg, Int.natAbs_natCast]
      have hs := dgs_size 18 (m / 10) (by omega)
      have hs' := dgs_size 0 (m % 10) (by simp; omega)
      have e1 : wrap64 (-((m / 10 : Nat) : Int)) = -((m / 10 : Nat) : Int) := w64 (by omega) (by omega)
      have e2 : wrap64 (-(-((m % 10 : Nat) : Int))) = ((m % 10 : Nat) : Int) := by rw [Int.neg_neg]; exact w64 (by omega) (by omega)
      have c : (dstr (-((m / 10 : Nat) : Int))).size + (dgs (m % 10)).size ≤ 9223372036854775807 := by
        rw [e0, ByteArray.size_append]; show 1 + _ + _ ≤ _; omega
      simp only [impl_Digits.j0, h9, decide_false, Bool.false_eq_true, hn, if_false, if_true, tdiv_neg, tmod_neg, e1, e2]
      refine Ev.bind hq (Ev.bind hr ?_)
      simp only [c, if_true]
      refine Ev.val ?_
      rw [e0, append_assoc_, dgs_ge (n := m) (by omega), dgs_lt (show m % 10 < 10 by omega)]
  · obtain ⟨m, rfl⟩ : ∃ m : Nat, n = (m : Int) := ⟨n.toNat, by omega⟩
    have ed : dstr (m : Int) = dgs m := by unfold dstr; rw [if_neg hn, Int.natAbs_natCast]
    rw [ed]
    exact impl_Digits_nat 18 m (by omega) (by omega) (by decide)
termination_by n.natAbs
decreasing_by omega
end Go.Proofs.Ytcedikpkbgofhaa.P2
end
section
set_option linter.unusedSimpArgs false
set_option linter.unusedVariables false
namespace Go.Proofs.Ytcedikpkbgofhaa.P2
open Go.RowKit Go.Proofs.YtcedikpkbgofhaaW.PrintWords Go.Proofs.YtcedikpkbgofhaaW.PrintLast Go.Proofs.YtcedikpkbgofhaaZ
def hexA : ByteArray := ⟨#[48, 49, 50, 51, 52, 53, 54, 55, 56, 57, 97, 98, 99, 100, 101, 102]⟩
def hx (s : ByteArray) (i : Int) : List Int := [bt hexA (bt s i / 16), bt hexA (Go.bits .and .u8 (bt s i) 15)]
def hexF (s : ByteArray) : Nat → Nat → List Int
  | _, 0 => []
  | i, n + 1 => hx s i ++ hexF s (i + 1) n
def vtext (a : iV) : ByteArray :=
  if okV a = true then
    if a.f0 = 0 then ⟨#[110, 117, 108, 108]⟩ else if a.f0 = 1 then (if a.f1 = 0 then ⟨#[110, 111]⟩ else ⟨#[121, 101, 115]⟩)
    else if a.f0 = 2 then dstr a.f1 else strOfNums (34 :: hexF a.f2 0 a.f2.size)
  else ⟨#[98, 97, 100]⟩
theorem okV_kinds {a : iV} (h : okV a = true) : a.f0 = 0 ∨ (a.f0 = 1 ∧ 0 ≤ a.f1 ∧ a.f1 ≤ 1) ∨ (a.f0 = 2 ∧ -1000000000000 ≤ a.f1 ∧ a.f1 ≤ 1000000000000) ∨ (a.f0 = 3 ∧ a.f1 = 0 ∧ a.f2.size ≤ 20) := by
  simp only [okV, Bool.or_eq_true, Bool.and_eq_true, beq_iff_eq, decide_eq_true_eq] at h
  omega
theorem spec_hex_ev (a b : Int) (s : ByteArray) (hs : s.size ≤ 20) : ∀ (n i : Nat) (out : List Int), i + n = s.size → out.length ≤ 1 + 2 * i →
    Ev (fun k => spec_ValueText.l0 k hexA out (i : Int) a b s) (strOfNums (out ++ hexF s i n)) := by
  intro n
  induction n with
  | zero =>
    intro i out hi hl
    refine Ev.shift ?_
    have h : ¬ ((i : Int) < (s.size : Int)) := by omega
    simp only [spec_ValueText.l0, h, if_false, hexF, List.append_nil]
    exact Ev.now _
  | succ n ih =>
    intro i out hi hl
    have hr := bt_range s (i : Int)
    have h1 : (i : Int) < (s.size : Int) := by omega
    have h2 : (0 : Int) ≤ (i : Int) := by omega
    have h3 : 0 ≤ bt s (i : Int) / 16 := by omega
    have h4 : bt s (i : Int) / 16 < (hexA.size : Int) := by show _ < (16 : Int); omega
    have e := Go.u8_and15 (x := bt s (i : Int)) (by omega) (by omega)
    have h5 : 0 ≤ Go.bits .and .u8 (bt s (i : Int)) 15 := by rw [e]; omega
    have h6 : Go.bits .and .u8 (bt s (i : Int)) 15 < (hexA.size : Int) := by rw [e]; show _ < (16 : Int); omega
    have h7 : out.length + (hx s (i : Int)).length < 140737488355328 := by simp only [hx, List.length_cons, List.length_nil]; omega
    refine Ev.shift ?_
    simp only [spec_ValueText.l0, h1, h2, h3, h4, h5, h6, if_true, Option.bind_some]
    have hh : (if out.length + (hx s (i : Int)).length < 140737488355328 then 1 else 2) = 1 := if_pos h7
    refine Ev.pos (p := out.length + (hx s (i : Int)).length < 140737488355328) h7 ?_
    rw [succ64 (show i < s.size by omega) (by omega)]
    have := ih (i + 1) (out ++ hx s (i : Int)) (by omega) (by simp only [hx, List.length_append, List.length_cons, List.length_nil]; omega)
    rw [List.append_assoc] at this
    exact this
theorem impl_hex_ev (a b : Int) (s : ByteArray) (hs : s.size ≤ 20) : ∀ (n i : Nat) (out : List Int), i + n = s.size → out.length ≤ 1 + 2 * i →
    Ev (fun k => impl_ValueText.l0 k out (s.size : Int) (i : Int) a b s) (strOfNums (out ++ hexF s i n)) := by
  intro n
  induction n with
  | zero =>
    intro i out hi hl
    refine Ev.shift ?_
    have h : ¬ ((i : Int) < (s.size : Int)) := by omega
    simp only [impl_ValueText.l0, h, if_false, hexF, List.append_nil]
    exact Ev.now _
  | succ n ih =>
    intro i out hi hl
    have hr := bt_range s (i : Int)
    have h1 : (i : Int) < (s.size : Int) := by omega
    have h2 : (0 : Int) ≤ (i : Int) := by omega
    have h3 : 0 ≤ bt s (i : Int) / 16 := by omega
    have h4 : bt s (i : Int) / 16 < 16 := by omega
    have e := Go.u8_and15 (x := bt s (i : Int)) (by omega) (by omega)
    have h5 : 0 ≤ Go.bits .and .u8 (bt s (i : Int)) 15 := by rw [e]; omega
    have h6 : Go.bits .and .u8 (bt s (i : Int)) 15 < 16 := by rw [e]; omega
    have h7 : out.length + (hx s (i : Int)).length < 140737488355328 := by simp only [hx, List.length_cons, List.length_nil]; omega
    refine Ev.shift ?_
    simp only [impl_ValueText.l0, h1, h2, h3, h4, h5, h6, if_true, Option.bind_some]
    refine Ev.pos (p := out.length + (hx s (i : Int)).length < 140737488355328) h7 ?_
    rw [succ64 (show i < s.size by omega) (by omega)]
    have := ih (i + 1) (out ++ hx s (i : Int)) (by omega) (by simp only [hx, List.length_append, List.length_cons, List.length_nil]; omega)
    rw [List.append_assoc] at this
    exact this
theorem yn_get {b : Int} (h0 : 0 ≤ b) (h1 : b ≤ 1) : rdOf ByteArray.empty [(⟨#[110, 111]⟩ : ByteArray), (⟨#[121, 101, 115]⟩ : ByteArray)] b = if b = 0 then ⟨#[110, 111]⟩ else ⟨#[121, 101, 115]⟩ := by
  have : b = 0 ∨ b = 1 := by omega
  rcases this with rfl | rfl <;> rfl
theorem spec_ValueText_ev (a : iV) : Ev (fun k => spec_ValueText.f k a.f0 a.f1 a.f2) (vtext a) := by
  simp only [spec_ValueText.f, spec_ValueOk_eq, Option.bind_some, vtext]
  by_cases h : okV a = true
  · simp only [h, if_true]
    rcases okV_kinds h with k0 | ⟨k0, k1, k2⟩ | ⟨k0, k1, k2⟩ | ⟨k0, k1, k2⟩
    · simp only [k0, show ¬ (0 : Int) = 1 by decide, show ¬ (0 : Int) = 2 by decide, show ¬ (0 : Int) = 3 by decide, if_true, if_false]
      exact Ev.now _
    · have c : a.f1 < ((2 : Nat) : Int) := by omega
      simp only [k0, show ¬ (1 : Int) = 0 by decide, if_true, if_false, k1, List.length_cons, List.length_nil, Nat.zero_add, Nat.reduceAdd, c, yn_get k1 k2]
      exact Ev.now _
    · simp only [k0, show ¬ (2 : Int) = 0 by decide, show ¬ (2 : Int) = 1 by decide, if_true, if_false]
      exact Ev.bind (spec_Digits_ev a.f1 (by omega) (by omega)) (Ev.now _)
    · simp only [k0, show ¬ (3 : Int) = 0 by decide, show ¬ (3 : Int) = 1 by decide, show ¬ (3 : Int) = 2 by decide, if_true, if_false]
      exact spec_hex_ev 3 a.f1 a.f2 k2 a.f2.size 0 [34] (by omega) (by simp)
  · simp only [h, if_false]
    exact Ev.now _
theorem impl_ValueText_ev (a : iV) : Ev (fun k => impl_ValueText.f k a.f0 a.f1 a.f2) (vtext a) := by
  simp only [impl_ValueText.f, impl_ValueOk_eq, Option.bind_some, vtext]
  by_cases h : okV a = true
  · simp only [h, if_true]
    rcases okV_kinds h with k0 | ⟨k0, k1, k2⟩ | ⟨k0, k1, k2⟩ | ⟨k0, k1, k2⟩
    · simp only [k0, show ¬ (0 : Int) = 1 by decide, show ¬ (0 : Int) = 2 by decide, show ¬ (0 : Int) = 3 by decide, if_true, if_false]
      exact Ev.now _
    · simp only [k0, show ¬ (1 : Int) = 0 by decide, show ¬ (1 : Int) = 2 by decide, if_true, if_false]
      refine Ev.shift ?_
      by_cases k3 : a.f1 = 0
      · simp only [impl_ValueText.j0, k3, beq_self_eq_true, if_true]
        exact Ev.now _
      · simp only [impl_ValueText.j0, beq_iff_eq, k3, if_true, if_false]
        exact Ev.now _
    · simp only [k0, show ¬ (2 : Int) = 0 by decide, show ¬ (2 : Int) = 1 by decide, if_true, if_false]
      exact Ev.bind (impl_Digits_ev a.f1 (by omega) (by omega)) (Ev.now _)
    · simp only [k0, show ¬ (3 : Int) = 0 by decide, show ¬ (3 : Int) = 1 by decide, show ¬ (3 : Int) = 2 by decide, if_true, if_false]
      refine Ev.shift ?_
      simp only [impl_ValueText.j0, Bool.false_eq_true, show ¬ (3 : Int) = 1 by decide, if_false]
      exact impl_hex_ev 3 a.f1 a.f2 k2 a.f2.size 0 [34] (by omega) (by simp)
  · simp only [h, if_false]
    exact Ev.now _
end Go.Proofs.Ytcedikpkbgofhaa.P2
end
section
set_option linter.unusedSimpArgs false
set_option linter.unusedVariables false
namespace Go.Proofs.Ytcedikpkbgofhaa.P2
open Go.RowKit Go.Proofs.YtcedikpkbgofhaaW.PrintWords Go.Proofs.YtcedikpkbgofhaaW.PrintLast Go.Proofs.YtcedikpkbgofhaaZ
section
variable {α β : Type}
def Got (o : Option α) (P : α → Prop) : Prop := ∃ a, o = some a ∧ P a
theorem Got.bind {o : Option α} {f : α → Option β} {P : α → Prop} {Q : β → Prop} (h : Got o P) (hf : ∀ a, P a → Got (f a) Q) : Got (o.bind f) Q := by
  obtain ⟨a, rfl, hp⟩ := h
  exact hf a hp
theorem Got.now {a : α} {P : α → Prop} (h : P a) : Got (some a) P := ⟨a, rfl, h⟩
theorem Got.pos {p : Prop} [Decidable p] {a b : Option α} {P : α → Prop} (hp : p) (h : Got a P) : Got (if p then a else b) P := by rw [if_pos hp]; exact h
theorem Got.neg {p : Prop} [Decidable p] {a b : Option α} {P : α → Prop} (hp : ¬ p) (h : Got b P) : Got (if p then a else b) P := by rw [if_neg hp]; exact h
theorem Got.ite {p : Prop} [Decidable p] {a b : Option α} {P : α → Prop} (h1 : p → Got a P) (h2 : ¬ p → Got b P) : Got (if p then a else b) P := by
  by_cases h : p
  · exact Got.pos h (h1 h)
  · exact Got.neg h (h2 h)
theorem Got.mono {o : Option α} {P Q : α → Prop} (h : Got o P) (f : ∀ a, P a → Q a) : Got o Q := by obtain ⟨a, h1, h2⟩ := h; exact ⟨a, h1, f a h2⟩
def EvG (g : Nat → Option α) (P : α → Prop) : Prop := ∃ a, Ev g a ∧ P a
theorem EvG.of_got {o : Option α} {P : α → Prop} (h : Got o P) : EvG (fun _ => o) P := by obtain ⟨a, rfl, hp⟩ := h; exact ⟨a, Ev.now _, hp⟩
theorem EvG.now {a : α} {P : α → Prop} (h : P a) : EvG (fun _ => some a) P := ⟨a, Ev.now _, h⟩
theorem EvG.bind {g : Nat → Option α} {f : α → Nat → Option β} {P : α → Prop} {Q : β → Prop} (h : EvG g P) (hf : ∀ a, P a → EvG (f a) Q) : EvG (fun k => (g k).bind fun a => f a k) Q := by
  obtain ⟨a, h1, hp⟩ := h
  obtain ⟨b, h2, hq⟩ := hf a hp
  exact ⟨b, Ev.bind h1 h2, hq⟩
theorem EvG.shift {g : Nat → Option α} {P : α → Prop} (h : EvG (fun k => g (k + 1)) P) : EvG g P := by obtain ⟨a, h1, hp⟩ := h; exact ⟨a, Ev.shift h1, hp⟩
theorem EvG.pos {p : Prop} [Decidable p] {a b : Nat → Option α} {P : α → Prop} (hp : p) (h : EvG a P) : EvG (fun k => if p then a k else b k) P := by simp only [hp, if_true]; exact h
theorem EvG.neg {p : Prop} [Decidable p] {a b : Nat → Option α} {P : α → Prop} (hp : ¬ p) (h : EvG b P) : EvG (fun k => if p then a k else b k) P := by simp only [hp, if_false]; exact h
theorem EvG.ite {p : Prop} [Decidable p] {a b : Nat → Option α} {P : α → Prop} (h1 : p → EvG a P) (h2 : ¬ p → EvG b P) : EvG (fun k => if p then a k else b k) P := by
  by_cases h : p
  · exact EvG.pos h (h1 h)
  · exact EvG.neg h (h2 h)
theorem EvG.mono {g : Nat → Option α} {P Q : α → Prop} (h : EvG g P) (f : ∀ a, P a → Q a) : EvG g Q := by obtain ⟨a, h1, h2⟩ := h; exact ⟨a, h1, f a h2⟩
end
end Go.Proofs.Ytcedikpkbgofhaa.P2
end
section
set_option linter.unusedSimpArgs false
set_option linter.unusedVariables false
namespace Go.Proofs.Ytcedikpkbgofhaa.P2
open Go.RowKit Go.Proofs.YtcedikpkbgofhaaW.PrintWords Go.Proofs.YtcedikpkbgofhaaW.PrintLast Go.Proofs.YtcedikpkbgofhaaZ
def okC (b : List Int) (i : Int) : Prop := b.length ≤ 1048576 ∧ 0 ≤ i ∧ i ≤ (b.length : Int)
theorem and255_all (n : Int) : Go.bits .and .i64 n 255 = n % 256 := by
  have h255 : (BitVec.ofInt 64 255).toNat = 2 ^ 8 - 1 := by decide
  have key : (BitVec.ofInt 64 n &&& BitVec.ofInt 64 255).toNat = (n % ((2 ^ 64 : Nat) : Int)).toNat % 2 ^ 8 := by
    rw [BitVec.toNat_and, BitVec.toNat_ofInt, h255, Nat.and_two_pow_sub_one_eq_mod]
  show IntKind.i64.wrap ((BitVec.ofInt 64 n &&& BitVec.ofInt 64 255).toNat : Nat) = n % 256
  rw [key, IntKind.wrap_i64]
  omega
theorem l1Byte_got {b : List Int} {i : Int} (h : okC b i) (c : Int) : Got (spec_l1Byte.f b i c) (fun r => 0 ≤ r.1 ∧ r.1 ≤ 255 ∧ okC b r.2.1) := by
  obtain ⟨h0, h1, h2⟩ := h
  simp only [spec_l1Byte.f, and255_all]
  refine Got.ite (fun h3 => Got.pos h1 (Got.now ⟨?_, ?_, h0, ?_, ?_⟩)) (fun h3 => Got.now ⟨?_, ?_, h0, h1, h2⟩)
  · show 0 ≤ _ % (256 : Int); omega
  · show _ % (256 : Int) ≤ 255; omega
  · show 0 ≤ wrap64 (i + 1); rw [w64 (by omega) (by omega)]; omega
  · show wrap64 (i + 1) ≤ _; rw [w64 (by omega) (by omega)]; omega
  · show 0 ≤ _ % (256 : Int); omega
  · show _ % (256 : Int) ≤ 255; omega
theorem l1Below_got {b : List Int} {i : Int} (h : okC b i) (c n : Int) : Got (spec_l1Below.f b i c n) (fun r => 0 ≤ r.1 ∧ (0 < n → r.1 < n) ∧ (n ≤ 0 → r.1 = 0) ∧ okC b r.2.1) := by
  simp only [spec_l1Below.f]
  refine Got.ite (fun h1 => Got.now ⟨Int.le_refl 0, fun h2 => by omega, fun _ => rfl, h⟩) (fun h1 => ?_)
  have hn : ¬ n = 0 := by omega
  refine Got.ite (fun h2 => ?_) (fun h2 => ?_)
  · refine (l1Byte_got h c).bind (fun r hr => Got.neg hn (Got.now ⟨?_, fun _ => ?_, fun _ => by omega, hr.2.2⟩))
    · exact Int.tmod_nonneg _ hr.1
    · exact Int.tmod_lt_of_pos _ (by omega)
  · refine (l1Byte_got h c).bind (fun r1 h1 => (l1Byte_got h1.2.2 _).bind (fun r2 h2 => (l1Byte_got h2.2.2 _).bind (fun r3 h3 => (l1Byte_got h3.2.2 _).bind (fun r4 h4 => Got.neg hn (Got.now ⟨?_, fun _ => ?_, fun _ => by omega, h4.2.2⟩)))))
    · refine Int.tmod_nonneg _ ?_
      have e1 : wrap64 (r1.1 * 16777216) = r1.1 * 16777216 := w64 (by omega) (by omega)
      have e2 : wrap64 (r2.1 * 65536) = r2.1 * 65536 := w64 (by omega) (by omega)
      have e3 : wrap64 (r3.1 * 256) = r3.1 * 256 := w64 (by omega) (by omega)
      rw [e1, e2, e3, w64 (n := r1.1 * 16777216 + r2.1 * 65536) (by omega) (by omega), w64 (n := r1.1 * 16777216 + r2.1 * 65536 + r3.1 * 256) (by omega) (by omega), w64 (by omega) (by omega)]
      omega
    · exact Int.tmod_lt_of_pos _ (by omega)
theorem l1New_evg (b : List Int) (hb : b.length ≤ 1048576) : EvG (fun k => spec_l1New.f k b) (fun r => r.1 = b ∧ r.2.1 = 0) := by
  have key : ∀ i : Nat, i ≤ b.length → ∀ h : Int, EvG (fun k => spec_l1New.l0 k b h (i : Int)) (fun r => r.1 = b ∧ r.2.1 = 0) := by
    refine back ?_ fun i hi ih => ?_
    · intro h
      refine EvG.shift ?_
      simp only [spec_l1New.l0, Int.lt_irrefl, if_false]
      exact EvG.now ⟨rfl, rfl⟩
    · intro h
      have c0 : (0 : Int) ≤ (i : Int) := by omega
      have c1 : (i : Int) < (b.length : Int) := by omega
      refine EvG.shift ?_
      simp only [spec_l1New.l0, c0, c1, if_true, succ64 hi (by omega)]
      refine EvG.ite (fun _ => ih _) (fun _ => EvG.now ⟨rfl, rfl⟩)
  simp only [spec_l1New.f]
  exact key 0 (Nat.zero_le _) _
theorem okC_start {b : List Int} (hb : b.length ≤ 1048576) : okC b 0 := ⟨hb, Int.le_refl _, by omega⟩
end Go.Proofs.Ytcedikpkbgofhaa.P2
end
section
set_option linter.unusedSimpArgs false
set_option linter.unusedVariables false
namespace Go.Proofs.Ytcedikpkbgofhaa.P2
open Go.RowKit Go.Proofs.YtcedikpkbgofhaaW.PrintWords Go.Proofs.YtcedikpkbgofhaaW.PrintLast Go.Proofs.YtcedikpkbgofhaaZ
theorem l1PickInt_got {b : List Int} {i : Int} (h : okC b i) (c : Int) (l : List Int) (hl : l ≠ []) : Got (spec_l1PickInt.f b i c l) (fun r => r.1 ∈ l ∧ okC b r.2.1) := by
  have hp := List.length_pos_iff.mpr hl
  simp only [spec_l1PickInt.f]
  refine (l1Below_got h c _).bind (fun r hr => Got.pos hr.1 (Got.pos (hr.2.1 (by omega)) (Got.now ⟨?_, hr.2.2.2⟩)))
  have h1 := hr.1
  have h2 := hr.2.1 (by omega)
  obtain ⟨n, hn⟩ : ∃ n : Nat, r.1 = (n : Int) := ⟨r.1.toNat, by omega⟩
  have hlt : n < l.length := by omega
  show rd l r.1 ∈ l
  rw [hn, rd_get (List.getElem?_eq_getElem hlt)]
  exact List.getElem_mem hlt
end Go.Proofs.Ytcedikpkbgofhaa.P2
end
section
set_option linter.unusedSimpArgs false
set_option linter.unusedVariables false
namespace Go.Proofs.Ytcedikpkbgofhaa.P2
open Go.RowKit Go.Proofs.YtcedikpkbgofhaaW.PrintWords Go.Proofs.YtcedikpkbgofhaaW.PrintLast Go.Proofs.YtcedikpkbgofhaaZ
theorem l1Once_got {b : List Int} {i : Int} (h : okC b i) (c n : Int) : Got (spec_l1Once.f b i c n) (fun r => okC b r.2.1) := by
  simp only [spec_l1Once.f]
  exact (l1Below_got h c n).bind (fun r hr => Got.now hr.2.2.2)
theorem l1Pick_got {b : List Int} {i : Int} (h : okC b i) (c : Int) (l : List ByteArray) (hl : l ≠ []) : Got (spec_l1Pick.f b i c l) (fun r => r.1 ∈ l ∧ okC b r.2.1) := by
  have hp := List.length_pos_iff.mpr hl
  simp only [spec_l1Pick.f]
  refine (l1Below_got h c _).bind (fun r hr => Got.pos hr.1 (Got.pos (hr.2.1 (by omega)) (Got.now ⟨?_, hr.2.2.2⟩)))
  have h1 := hr.1
  have h2 := hr.2.1 (by omega)
  obtain ⟨n, hn⟩ : ∃ n : Nat, r.1 = (n : Int) := ⟨r.1.toNat, by omega⟩
  have hlt : n < l.length := by omega
  show rdOf ByteArray.empty l r.1 ∈ l
  rw [hn]
  have e : rdOf ByteArray.empty l (n : Int) = l[n] := getD_get (List.getElem?_eq_getElem hlt)
  rw [e]
  exact List.getElem_mem hlt
end Go.Proofs.Ytcedikpkbgofhaa.P2
end
section
set_option linter.unusedSimpArgs false
set_option linter.unusedVariables false
namespace Go.Proofs.Ytcedikpkbgofhaa.P2
open Go.RowKit Go.Proofs.YtcedikpkbgofhaaW.PrintWords Go.Proofs.YtcedikpkbgofhaaW.PrintLast Go.Proofs.YtcedikpkbgofhaaZ
theorem l17DrawOf_got {b : List Int} {i : Int} (h : okC b i) (c n : Int) : Got (spec_l17DrawOf.f b i c n) (fun r => r.2.2.1.size ≤ 22 ∧ okC b r.2.2.2.1) := by
  simp only [spec_l17DrawOf.f]
  refine Got.ite (fun _ => (l1Below_got h c 2).bind (fun r hr => Got.now ⟨by show 0 ≤ 22; decide, hr.2.2.2⟩)) (fun _ => ?_)
  refine Got.ite (fun _ => (l1PickInt_got h c _ (by simp)).bind (fun r hr => Got.now ⟨by show 0 ≤ 22; decide, hr.2⟩)) (fun _ => ?_)
  refine Got.ite (fun _ => (l1Pick_got h c _ (by simp)).bind (fun r hr => Got.now ⟨?_, hr.2⟩)) (fun _ => Got.now ⟨by show 0 ≤ 22; decide, h⟩)
  have h1 := hr.1
  show r.1.size ≤ 22
  simp only [List.mem_cons, List.not_mem_nil, or_false] at h1
  rcases h1 with h | h | h | h | h | h | h | h | h <;> rw [h] <;> decide +kernel
theorem l17DrawRight_got {b : List Int} {i : Int} (h : okC b i) (c : Int) : Got (spec_l17DrawRight.f b i c) (fun r => r.2.2.1.size ≤ 22 ∧ okC b r.2.2.2.1) := by
  simp only [spec_l17DrawRight.f]
  exact (l1Below_got h c 4).bind (fun r hr => (l17DrawOf_got hr.2.2.2 _ _).bind (fun r2 hr2 => Got.now hr2))
theorem l17Draw_got {b : List Int} {i : Int} (h : okC b i) (c : Int) : Got (spec_l17Draw.f b i c) (fun r => r.2.2.1.size ≤ 42 ∧ okC b r.2.2.2.1) := by
  simp only [spec_l17Draw.f]
  refine (l17DrawRight_got h c).bind (fun r hr => (l1Below_got hr.2 _ 12).bind (fun r2 hr2 => ?_))
  refine Got.ite (fun _ => (l1Below_got hr2.2.2.2 _ 6).bind (fun r3 hr3 => Got.now ⟨by have := hr.1; show r.2.2.1.size ≤ 42; omega, hr3.2.2.2⟩)) (fun _ => ?_)
  refine Got.ite (fun _ => (l1PickInt_got hr2.2.2.2 _ _ (by simp)).bind (fun r3 hr3 => Got.now ⟨by have := hr.1; show r.2.2.1.size ≤ 42; omega, hr3.2⟩)) (fun _ => ?_)
  refine Got.ite (fun _ => Got.pos (by have := hr.1; omega) (Got.now ⟨?_, hr2.2.2.2⟩)) (fun _ => Got.now ⟨by have := hr.1; show r.2.2.1.size ≤ 42; omega, hr2.2.2.2⟩)
  have := hr.1
  show (_ ++ _ : ByteArray).size ≤ 42
  rw [ByteArray.size_append]
  show _ + 20 ≤ 42
  omega
end Go.Proofs.Ytcedikpkbgofhaa.P2
end
section
set_option linter.unusedSimpArgs false
set_option linter.unusedVariables false
namespace Go.Proofs.Ytcedikpkbgofhaa.P2
open Go.RowKit Go.Proofs.YtcedikpkbgofhaaW.PrintWords Go.Proofs.YtcedikpkbgofhaaW.PrintLast Go.Proofs.YtcedikpkbgofhaaZ
theorem dgs_pos (n : Nat) : 0 < (dgs n).size := by
  by_cases h : n < 10
  · rw [dgs_lt h]; show 0 < 1; decide
  · rw [dgs_ge h, ByteArray.size_append]; show 0 < _ + 1; omega
theorem dstr_pos (n : Int) : 0 < (dstr n).size := by
  have := dgs_pos n.natAbs
  unfold dstr
  split
  · rw [ByteArray.size_append]; omega
  · exact this
theorem vtext_pos (a : iV) : 0 < (vtext a).size := by
  unfold vtext
  split
  · split
    · show 0 < 4; decide
    · split
      · split
        · show 0 < 2; decide
        · show 0 < 3; decide
      · split
        · exact dstr_pos _
        · rw [strOfNums_size, List.length_cons]; omega
  · show 0 < 3; decide
theorem bytes_anti : ∀ a b : List UInt8, a ≠ b → (Op.bytesLess a b != Op.bytesLess b a) = true
  | [], [], h => absurd rfl h
  | [], _ :: _, _ => by simp [Op.bytesLess]
  | _ :: _, [], _ => by simp [Op.bytesLess]
  | a :: x, b :: y, h => by
    simp only [Op.bytesLess]
    rcases u8_lt_or a b with g | g | g
    · have e1 := u8_ne g
      have e2 := u8_asym g
      simp [g, e1, e1.symm, e2]
    · subst g
      have ih := bytes_anti x y (fun e => h (by rw [e]))
      simpa [u8_irr] using ih
    · have e1 := u8_ne g
      have e2 := u8_asym g
      simp [g, e1, e1.symm, e2]
theorem byV_anti (a b : iV) (h : (byV a b == 0) = false) : (decide (byV a b < 0) != decide (byV b a < 0)) = true := by
  unfold byV at h ⊢
  by_cases p : a.f0 < b.f0
  · have q : ¬ b.f0 < a.f0 := by omega
    simp [p, q]
  · by_cases q : b.f0 < a.f0
    · simp [p, q]
    · by_cases s : a.f1 < b.f1
      · have u : ¬ b.f1 < a.f1 := by omega
        simp [p, q, s, u]
      · by_cases u : b.f1 < a.f1
        · simp [p, q, s, u]
        · have p' : ¬ a.f0 > b.f0 := q
          have q' : ¬ b.f0 > a.f0 := p
          have u' : ¬ a.f1 > b.f1 := u
          have s' : ¬ b.f1 > a.f1 := s
          simp only [p, q, s, u, p', q', s', u', if_false] at h ⊢
          rw [cmpB_zero] at h
          rw [cmpB_lt, cmpB_lt]
          exact bytes_anti _ _ (beq_eq_false_iff_ne.mp h)
theorem byV_same (a b : iV) (h : (byV a b == 0) = true) : ¬ byV a b < 0 ∧ ¬ byV b a < 0 := by
  have e := beq_iff_eq.mp h
  refine ⟨by omega, ?_⟩
  have e2 : (byV b a == 0) = true := by
    rw [byV_zero] at h ⊢
    simp only [Bool.and_eq_true, beq_iff_eq] at h ⊢
    exact ⟨h.1.symm, h.2.1.symm, h.2.2.symm⟩
  have := beq_iff_eq.mp e2
  omega
theorem drawValueLess_evg (b : List Int) (hb : b.length ≤ 1048576) : EvG (fun k => spec_DrawValueLess.f k b) (fun _ => True) := by
  simp only [spec_DrawValueLess.f]
  refine EvG.bind (l1New_evg b hb) (fun r hr => ?_)
  have hc : okC r.1 r.2.1 := by rw [hr.1, hr.2]; exact okC_start hb
  refine EvG.bind (EvG.of_got (l17Draw_got hc _)) (fun r2 hr2 => EvG.bind (EvG.of_got (l1Once_got hr2.2 _ 4)) (fun r3 hr3 => EvG.ite (fun _ => EvG.now trivial) (fun _ => EvG.bind (EvG.of_got (l17Draw_got hr3 _)) (fun r4 hr4 => EvG.now trivial))))
theorem drawValue_evg (b : List Int) (hb : b.length ≤ 1048576) : EvG (fun k => spec_DrawValueOk.f k b) (fun _ => True) ∧ EvG (fun k => spec_DrawValueText.f k b) (fun _ => True) := by
  simp only [spec_DrawValueOk.f, spec_DrawValueText.f]
  have key : EvG (fun k => (spec_l1New.f k b).bind fun bt102 => ((spec_l17Draw.f bt102.1 bt102.2.1 bt102.2.2).bind fun bt106 => (some (bt106.1, bt106.2.1, bt106.2.2.1)))) (fun _ => True) := by
    refine EvG.bind (l1New_evg b hb) (fun r hr => ?_)
    have hc : okC r.1 r.2.1 := by rw [hr.1, hr.2]; exact okC_start hb
    exact EvG.bind (EvG.of_got (l17Draw_got hc _)) (fun r2 hr2 => EvG.now trivial)
  exact ⟨key, key⟩
theorem pureFnValues : PureFnValues := by
  intro l hl
  refine Ev.rounds ?_
  simp only [laws_FnValues.f, laws_big.f, Option.bind_some]
  by_cases hbig : (l.length : Int) > 1048576
  · simp only [hbig, decide_true, if_true]; exact Ev.now _
  simp only [hbig, decide_false, Bool.false_eq_true, if_false]
  have hb : l.length ≤ 1048576 := by omega
  obtain ⟨x, hx, _⟩ := drawValueLess_evg l hb
  have hx2 : Ev (fun k => spec_DrawValueSame.f k l) (x.1, x.2.1, x.2.2.1, x.2.2.2.1, x.2.2.2.2.1, x.2.2.2.2.2) := by
    simp only [spec_DrawValueSame.f]
    exact Ev.bind hx (Ev.now _)
  obtain ⟨⟨y, hy, _⟩, ⟨z, hz, _⟩⟩ := drawValue_evg l hb
  have L1 := impl_ValueLess_ev ⟨x.1, x.2.1, x.2.2.1⟩ ⟨x.2.2.2.1, x.2.2.2.2.1, x.2.2.2.2.2⟩
  have L2 := impl_ValueLess_ev ⟨x.2.2.2.1, x.2.2.2.2.1, x.2.2.2.2.2⟩ ⟨x.1, x.2.1, x.2.2.1⟩
  have L3 := spec_ValueLess_eq ⟨x.1, x.2.1, x.2.2.1⟩ ⟨x.2.2.2.1, x.2.2.2.2.1, x.2.2.2.2.2⟩
  have L4 := spec_ValueSame_eq ⟨x.1, x.2.1, x.2.2.1⟩ ⟨x.2.2.2.1, x.2.2.2.2.1, x.2.2.2.2.2⟩
  have L5 : impl_ValueSame.f x.1 x.2.1 x.2.2.1 x.2.2.2.1 x.2.2.2.2.1 x.2.2.2.2.2 = some (byV ⟨x.1, x.2.1, x.2.2.1⟩ ⟨x.2.2.2.1, x.2.2.2.2.1, x.2.2.2.2.2⟩ == 0) := L4
  have T1 := impl_ValueText_ev ⟨z.1, z.2.1, z.2.2⟩
  have T2 := spec_ValueText_ev ⟨z.1, z.2.1, z.2.2⟩
  refine Ev.bind hx (Ev.bind hx2 (Ev.bind hy (Ev.bind hz (Ev.bind L1 (Ev.bind (Ev.of_eq L3) (Ev.neg (by simp) (Ev.bind (Ev.of_eq L5) (Ev.bind (Ev.of_eq L4) (Ev.neg (by simp) ?_)))))))))
  refine Ev.bind (Ev.of_eq (impl_ValueOk_eq ⟨y.1, y.2.1, y.2.2⟩)) (Ev.bind (Ev.of_eq (spec_ValueOk_eq ⟨y.1, y.2.1, y.2.2⟩)) (Ev.neg (by simp) (Ev.bind T1 (Ev.bind T2 (Ev.pos rfl (Ev.bind T1 (Ev.shift ?_)))))))
  have hne : ((vtext ⟨z.1, z.2.1, z.2.2⟩).toList == ([] : List UInt8)) = false := by
    rw [ba_nil, beq_eq_false_iff_ne]
    have := vtext_pos ⟨z.1, z.2.1, z.2.2⟩
    omega
  simp only [laws_FnValues.j0, hne, Bool.false_eq_true, if_false]
  refine Ev.bind (Ev.of_eq L5) ?_
  by_cases hs : (byV ⟨x.1, x.2.1, x.2.2.1⟩ ⟨x.2.2.2.1, x.2.2.2.2.1, x.2.2.2.2.2⟩ == 0) = true
  · obtain ⟨n1, n2⟩ := byV_same _ _ hs
    refine Ev.pos hs (Ev.bind L1 (Ev.neg (by simpa using n1) (Ev.bind L2 (Ev.val ?_))))
    simpa using n2
  · have ha := byV_anti _ _ (by simpa using hs)
    exact Ev.neg hs (Ev.bind L1 (Ev.bind L2 (Ev.val ha)))
end Go.Proofs.Ytcedikpkbgofhaa.P2
end
namespace Go.Proofs.Ytcedikpkbgofhaa.fnValues
open Go.ChangeShapes Go.WideShapes Go.ChangeAt Go.RowKit Go.Proofs.YtcedikpkbgofhaaW.PrintWords Go.Proofs.YtcedikpkbgofhaaW.PrintLast Go.Proofs.YtcedikpkbgofhaaZ Go.Proofs.Ytcedikpkbgofhaa.P2
open Go.ChangeMaps (open_string shut_string)
set_option linter.unusedVariables false
theorem own : ownKnob Try.prog.godebug = none := by kernel_rfl
theorem laidOut : laidOutB Try.prog = true := by kernel_rfl
set_option maxRecDepth 100000 in
theorem lifted (os : Os) (started : os.Started) (H : Type) (enc : TypeId × Value → H) :
    ReturnsInHanded {} Try.checked os 6 .any (Rows.fnValuesSpec.pre6 enc Try.prog Try.f6 Rows.fnValuesRow.domain false) (Rows.fnValuesSpec.post enc Try.prog Try.f6 false true false false) := by
  refine returnsInHanded_of_change_sized (C := Try.checked) own started (by kernel_rfl) Try.func6
    (ChangeSpec.witness6 (enc := enc) (C := Try.checked) false ⟨#[], #[.slice none 0 0], []⟩ 8 (by kernel_rfl) (by kernel_rfl) (by kernel_rfl) (by kernel_rfl)) ?_
  intro W base args ds gs before hval0 hW hcnd hsz0 _
  have hval : ∀ (j : Nat) t v, Try.f6.params[j]? = some t → args[j]? = some v → Value.okWide Try.prog W .any base t v := hval0
  have hW' := hW
  obtain ⟨p, q, hA0, hV, rfl, hfz, hnd⟩ := hW
  have hA : DataW.TrodAll enc Try.prog W 0 (fun _ => true) true Try.f6.params.toList args.toList ds p := hA0
  rw [Try.params6] at hA hval
  obtain ⟨v0, vs0, d0, ds0, p0, q0, hargs, rfl, rfl, h0, r0⟩ := trodAll_cons hA
  obtain ⟨rfl, rfl, rfl⟩ := trodAll_nil r0
  obtain rfl : args = #[v0] := by cases args; simp_all
  obtain ⟨rfl, rfl⟩ := trodVars_none hV
  have k0_ := h0
  have lt0 : ∀ x ∈ p0, x.block < W.heap.size := by obtain ⟨m, hm⟩ := k0_; exact DataW.trod_lt m _ _ _ hm
  obtain ⟨a0_, len0_, cap0_, rfl⟩ := okWide_slice Try.underlying22 (hval 0 22 v0 rfl rfl)
  obtain ⟨x0, K0, wf0_⟩ := Opens.param (Opens.slice 5 Try.underlying22 (by kernel_rfl) (Opens.int Try.underlying5)) h0
  obtain ⟨A0, c0, e0, l0, g0⟩ := K0
  simp [Value.cells] at e0
  obtain ⟨rfl, rfl, rfl⟩ := e0
  obtain ⟨k, hk⟩ := pureFnValues x0 wf0_
  clear hA0 hval0 hsz0
  refine (laws_FnValues.calls k _ _ x0 true W g0 l0 hk).mono fun e W' hh => ?_
  obtain ⟨he, bel0⟩ := hh
  have bel : Below W.heap.size W W' := bel0
  subst he
  exact ⟨_, rfl, _, _, _, [], _, [], hW', trodAll_mk1 (shut_bool Try.underlying4 _), (trodAll_cons_mk (Below.trod laidOut (by kernel_rfl) (of_decide_eq_true (by kernel_rfl)) k0_ bel lt0) trodAll_mk0), rfl, bel.frame _, fun h => by cases h⟩
theorem over : Rows.fnValuesRow.holds Try.pinned (OpenSpec.ofChange Rows.fnValuesSpec) :=
  OpenClaim.holds_of_wide 6 Try.f6 rfl rfl rfl rfl rfl rfl rfl ⟨rfl, rfl, rfl, rfl, rfl⟩ rfl rfl rfl rfl rfl (by kernel_rfl) Try.func6 (by kernel_rfl)
    (of_decide_eq_true (by kernel_rfl)) (by unfold Func.isWrapper; first | (rw [if_pos (by decide +kernel)]; kernel_rfl) | (rw [if_neg (by decide +kernel)]; exact ⟨rfl, rfl⟩))
    (fun os started H enc _ => lifted os started H enc)
theorem proved : Rows.FnValuesSaid := over
#print axioms proved
end Go.Proofs.Ytcedikpkbgofhaa.fnValues
namespace Go.Proofs.Ytcedikpkbgofhaa
theorem fnValues_holds : Rows.FnValuesSaid := fnValues.proved
end Go.Proofs.Ytcedikpkbgofhaa
