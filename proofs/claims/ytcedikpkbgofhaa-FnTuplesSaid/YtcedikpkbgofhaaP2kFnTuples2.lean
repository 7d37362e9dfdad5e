/- A part of the proof of the law FnTuples: texts of this seat, merged (words, printed functions of the program, plain lemmas). Conditions: none of its own. -/
import Derived.Test.YtcedikpkbgofhaaP2kFnTuples1
set_option linter.unusedSimpArgs false
set_option linter.unusedVariables false
namespace Go.Proofs.Ytcedikpkbgofhaa.P2
open Go.Proofs.YtcedikpkbgofhaaZ Go.RowKit Go.Proofs.YtcedikpkbgofhaaW.PrintWords Go.Proofs.YtcedikpkbgofhaaW.PrintLast Go.Proofs.YtcedikpkbgofhaaW.PrintMore
attribute [local go_sem] max2_int min2_int max_two min_two max_three min_three max_four min_four   -- for this text's walks alone
def spec_l18DrawRight.l0 : Nat → List (S37) → Int → List Int → Int → Int → Option ((List (S37)) × Int × Int)
  | 0, _, _, _, _, _ => none
  | k + 1, x3, x4, x1000, x1001, x1002 => (spec_l1Below.f x1000 x1001 x1002 5).bind fun bt104 => (if x4 < bt104.1 then ((spec_l17DrawRight.f x1000 bt104.2.1 bt104.2.2).bind fun bt107 => (if x3.length < 4398046511104 then (spec_l18DrawRight.l0 k (x3 ++ [(⟨bt107.1, bt107.2.1, bt107.2.2.1⟩ : S37)]) (wrap64 (x4 + 1)) x1000 bt107.2.2.2.1 bt107.2.2.2.2) else (none))) else (some (x3, bt104.2.1, bt104.2.2)))
def spec_l18DrawRight.f (k : Nat) (s0_0 : List Int) (s0_1 : Int) (s0_2 : Int) : Option ((List (S37)) × Int × Int) := spec_l18DrawRight.l0 k (([] : List (S37))) 0 s0_0 s0_1 s0_2
set_option maxHeartbeats 8000000 in
set_option maxRecDepth 100000 in
theorem spec_l18DrawRight.calls (k : Nat) (g : Nat) (s0_0 : List Int) (s0_1 : Int) (s0_2 : Int) (r1 : List (S37)) (r2 : Int) (r3 : Int) (w0 w : World) (hI : IsS96 w0 w g s0_0 s0_1 s0_2) (hB : Below w0.heap.size w0 w) (h : spec_l18DrawRight.f k s0_0 s0_1 s0_2 = some (r1, r2, r3)) :
    Calls Try.prog 55 #[.pointer (some ⟨g, 0, none⟩)] w fun e w' => ∃ v0_ : Value, e = .returned (v0_) ∧ Kd.R k37 37 w' w.heap.size (fun _ => True) v0_ r1 ∧ IsS96 w0 w' g s0_0 r2 r3 ∧ Below w0.heap.size w0 w' ∧ KeepBut w w' g none := by
  have HI0 := aM hI
  have HK := aM (KeepBut.refl w g none)
  have HL := aM hB.size
  clear hI
  have HW0 := aM hB.size
  have HB := aM hB
  clear hB
  have H := h
  unfold spec_l18DrawRight.f at H
  clear h
  obtain ⟨y101, hy101⟩ : ∃ y_ : List (S37), y_ = (([] : List (S37))) := ⟨_, rfl⟩
  replace H : (spec_l18DrawRight.l0 k y101 0 s0_0 s0_1 s0_2) = some (r1, r2, r3) := yH H hy101
  have Ny101 := aM hy101
  clear hy101
  have H' := aM H
  clear H
  go_enter Try.func55, Try.ntmps55
  go_wp2_with (first | ((with_reducible refine gate_dst (N := 5) rfl ?_); refine Kd.R_lit k37 _ 37 ?hg (N := 5) ?hd (xs := ([] : List (S37))) (inner := []) (ok := fun _ => True) (okp := fun _ => True) ?hr ?hp (fun _ hk => hk) trivial (Below.refl _ _) (Nat.le_refl _) (by simp) ?_; (case hd => rfl); (case hg => rfl); (case hr => first | (go_simp; done) | (go_simp; rfl)); (case hp => exact (Reps.none _ _)); intro vz1 wz1 hoz1 hb hg_ hnew_; clear hg_ hnew_; (first | rw [← Ny101.out] at hoz1 | (simp only [Int.reduceToNat] at hoz1; rw [← Ny101.out] at hoz1)); have HOz1 := aM (Kd.R_lower hoz1 (keep_size (w := w) (g := g) (row := none) (kX HK.out))); replace HK := aM (KeepBut.trans (kX HK.out) (KeepBut.of_below hb g none) (.inl rfl)); replace HB := aM (below_step (hY HB.out (IsS96.ge HI0.out)) hb); replace HI0 := aM (IsS96.below (i96 HI0.out) hb); clear hb hoz1))
  go_loopg [3, 4] k (fun kq v3 v4 w' => ∃ (x3_1 : List (S37)) (x4_1 : Int) (x1001_1 : Int) (x1002_1 : Int), v4 = .int .i64 x4_1 ∧ Aside0 (spec_l18DrawRight.l0 kq x3_1 x4_1 s0_0 x1001_1 x1002_1 = some (r1, r2, r3)) ∧ Aside0 (kq ≤ k) ∧ Aside0 (Kd.R k37 37 w' w.heap.size (fun _ => True) v3 x3_1) ∧ Aside0 (IsS96 w0 w' g s0_0 x1001_1 x1002_1) ∧ Aside0 (KeepBut w w' g none) ∧ Aside0 (Below w0.heap.size w0 w'))
  case atStart => exact ⟨(y101), (0), (s0_1), (s0_2), rS, H', ⟨Nat.le_refl _⟩, ⟨(rX HOz1.out)⟩, ⟨(i96 HI0.out)⟩, ⟨(kX HK.out)⟩, ⟨(hY HB.out (IsS96.ge HI0.out))⟩⟩
  case round =>
    clear H'
    try clear p2
    obtain ⟨x3_1, x4_1, x1001_1, x1002_1, rfl, HA, HKy1, HO_y1, HI0, HK, HB⟩ := hrel
    cases gk with
    | zero => exact absurd HA.out (by simp [spec_l18DrawRight.l0])
    | succ k1 =>
      have H := HA.out
      clear HA
      simp only [spec_l18DrawRight.l0] at H
      replace H := bE H; obtain ⟨⟨t104, t105, t106⟩, A4, H⟩ := H
      try dsimp only at H
      by_cases c5 : x4_1 < t104
      case neg =>
        rw [if_neg c5] at H
        have c5b0 := decide_eq_false c5
        clear c5
        simp only [Option.some.injEq, Prod.mk.injEq] at H
        obtain ⟨rfl, rfl, rfl⟩ := H
        go_wp2_with (first | (refine goesM 49 8 Try.func49 #[.pointer (some ⟨g, 0, none⟩), .int .i64 5] ?_; refine (spec_l1Below.calls g s0_0 x1001_1 x1002_1 5 t104 t105 t106 w0 _ (by repeat (first | (with_reducible first | exact HI0.out | apply IsS96.alloc | apply IsS96.drewN | apply IsS96.drew | apply IsS96.set_1 | apply IsS96.set_2) | exact HI0.out)) (by repeat (first | (with_reducible first | exact HB.out | apply below_alloc | apply pw_below_drewN | apply below_drew1 | refine below_set ?_ (IsS96.ge HI0.out)) | exact HB.out)) A4.out).mono ?_; rintro e wx1 ⟨rfl, hi, hb, hk⟩; refine ⟨_, rfl, ?_⟩; replace HO_y1 := aM (Kd.R_mono (Kd.R_keep (IsS96.apart (show IsS96 w0 _ g s0_0 x1001_1 x1002_1 from (i96 HI0.out)) (rX HO_y1.out) (by decide)) hk (fun _ h => h.2)) (fun _ h => h.1)); replace HK := aM (KeepBut.trans (kX HK.out) hk (.inl rfl)); replace HB := aM (hb); replace HI0 := aM (hi); clear hb hk hi))
        go_ret
        exact ⟨_, rE, (rX HO_y1.out), (i96 HI0.out), (hY HB.out (IsS96.ge HI0.out)), (kX HK.out)⟩
      rw [if_pos c5] at H
      have c5b0 := decide_eq_true c5
      clear c5
      replace H := bE H; obtain ⟨⟨t107, t108, t109, t110, t111⟩, A6, H⟩ := H
      try dsimp only at H
      replace H := ifP H; obtain ⟨c7, H⟩ := H
      have LMc7 := aM c7
      clear c7
      obtain ⟨y112, hy112⟩ : ∃ y_ : List (S37), y_ = (x3_1 ++ [(⟨t107, t108, t109⟩ : S37)]) := ⟨_, rfl⟩
      replace H : (spec_l18DrawRight.l0 k1 y112 (wrap64 (x4_1 + 1)) s0_0 t110 t111) = some (r1, r2, r3) := yH H hy112
      have Ny112 := aM hy112
      clear hy112
      have H' := aM H
      clear H
      go_wp2_with (first | ((with_reducible refine gate_callee (f := 49) rfl ?_); refine goesM 49 8 Try.func49 #[.pointer (some ⟨g, 0, none⟩), .int .i64 5] ?_; refine (spec_l1Below.calls g s0_0 x1001_1 x1002_1 5 t104 t105 t106 w0 _ (by repeat (first | (with_reducible first | exact HI0.out | apply IsS96.alloc | apply IsS96.drewN | apply IsS96.drew | apply IsS96.set_1 | apply IsS96.set_2) | exact HI0.out)) (by repeat (first | (with_reducible first | exact HB.out | apply below_alloc | apply pw_below_drewN | apply below_drew1 | refine below_set ?_ (IsS96.ge HI0.out)) | exact HB.out)) A4.out).mono ?_; rintro e wx1 ⟨rfl, hi, hb, hk⟩; refine ⟨_, rfl, ?_⟩; replace HO_y1 := aM (Kd.R_mono (Kd.R_keep (IsS96.apart (show IsS96 w0 _ g s0_0 x1001_1 x1002_1 from (i96 HI0.out)) (rX HO_y1.out) (by decide)) hk (fun _ h => h.2)) (fun _ h => h.1)); replace HK := aM (KeepBut.trans (kX HK.out) hk (.inl rfl)); replace HB := aM (hb); replace HI0 := aM (hi); clear hb hk hi) | ((with_reducible refine gate_callee (f := 50) rfl ?_); refine goesM 50 14 Try.func50 #[.pointer (some ⟨g, 0, none⟩)] ?_; refine (spec_l17DrawRight.calls g s0_0 t105 t106 t107 t108 t109 t110 t111 w0 _ (by repeat (first | (with_reducible first | exact HI0.out | apply IsS96.alloc | apply IsS96.drewN | apply IsS96.drew | apply IsS96.set_1 | apply IsS96.set_2) | exact HI0.out)) (by repeat (first | (with_reducible first | exact HB.out | apply below_alloc | apply pw_below_drewN | apply below_drew1 | refine below_set ?_ (IsS96.ge HI0.out)) | exact HB.out)) A6.out).mono ?_; rintro e wx2 ⟨rfl, hi, hb, hk⟩; refine ⟨_, rfl, ?_⟩; replace HO_y1 := aM (Kd.R_mono (Kd.R_keep (IsS96.apart (show IsS96 w0 _ g s0_0 t105 t106 from (i96 HI0.out)) (rX HO_y1.out) (by decide)) hk (fun _ h => h.2)) (fun _ h => h.1)); replace HK := aM (KeepBut.trans (kX HK.out) hk (.inl rfl)); replace HB := aM (hb); replace HI0 := aM (hi); clear hb hk hi) | ((with_reducible refine gate_builtin (b := .append) (xs := #[.tmp 12, .tmp 15]) rfl ?_); at_builtin; refine Kd.R_append k37 w.heap.size rfl (.tmp 12) (.tmp 15) 24 37 (.agg #[(.int .i64 0), (.int .i64 0), (.string ⟨#[]⟩)]) 32 rfl Try.underlying24 info37 rfl (by decide) (by omega) u3 x3_1 (⟨t107, t108, t109⟩ : S37) [.int .i64 t107, .int .i64 t108, .string t109] (fun _ => True) (fun _ => False) rfl rfl ?aP (fun _ hk => hk.elim) ?aF ?aO (Below.refl _ _) ?aS ?aL ?_; (case aP => exact k37_mkM _ _ _ (⟨t107, t108, t109⟩ : S37)); (case aF => exact (fun _ _ => trivial)); (case aO => exact (rX HO_y1.out)); (case aS => exact (keep_size (w := w) (g := g) (row := none) (kX HK.out))); (case aL => have := LMc7.out; omega); intro vx1 wx3 ho hb hg hat; rw [← Ny112.out] at ho; have HOx1 := aM (ho); replace HB := aM (below_weaken (hY HB.out (IsS96.ge HI0.out)) HL.out hb); replace HI0 := aM (IsS96.grown (i96 HI0.out) hg (IsS96.own_ne HI0.out HO_y1.out (by decide))); replace HK := aM (KeepBut.trans (kX HK.out) (KeepBut.of_grown hg g) (Kd.R_base2 HO_y1.out)); clear HO_y1; clear ho hb hg hat))
      go_roundg k1
      case measure => have := HKy1.out; omega
      case rel => exact ⟨(y112), (wrap64 (x4_1 + 1)), (t110), (t111), rS, H', ⟨by have := HKy1.out; omega⟩, ⟨(rX HOx1.out)⟩, ⟨(i96 HI0.out)⟩, ⟨(kX HK.out)⟩, ⟨(hY HB.out (IsS96.ge HI0.out))⟩⟩
def spec_l17Draw.f (s0_0 : List Int) (s0_1 : Int) (s0_2 : Int) : Option (Int × Int × ByteArray × Int × Int) := (spec_l17DrawRight.f s0_0 s0_1 s0_2).bind fun bt102 => ((spec_l1Below.f s0_0 bt102.2.2.2.1 bt102.2.2.2.2 12).bind fun bt108 => (if bt108.1 = 0 then ((spec_l1Below.f s0_0 bt108.2.1 bt108.2.2 6).bind fun bt111 => (some (wrap64 (bt111.1 - 1), bt102.2.1, bt102.2.2.1, bt111.2.1, bt111.2.2))) else (if bt108.1 = 1 then ((spec_l1PickInt.f s0_0 bt108.2.1 bt108.2.2 (([2, 1000000000001, (-9223372036854775808)] : List Int))).bind fun bt117 => (some (bt102.1, bt117.1, bt102.2.2.1, bt117.2.1, bt117.2.2))) else (if bt108.1 = 2 then (if bt102.2.2.1.size + 20 ≤ 9223372036854775807 then (some (bt102.1, bt102.2.1, bt102.2.2.1 ++ (⟨#[97, 97, 97, 97, 97, 97, 97, 97, 97, 97, 97, 97, 97, 97, 97, 97, 97, 97, 97, 97]⟩ : ByteArray), bt108.2.1, bt108.2.2)) else (none)) else (some (bt102.1, bt102.2.1, bt102.2.2.1, bt108.2.1, bt108.2.2))))))
set_option maxHeartbeats 8000000 in
set_option maxRecDepth 100000 in
theorem spec_l17Draw.calls (g : Nat) (s0_0 : List Int) (s0_1 : Int) (s0_2 : Int) (r1 : Int) (r2 : Int) (r3 : ByteArray) (r4 : Int) (r5 : Int) (w0 w : World) (hI : IsS96 w0 w g s0_0 s0_1 s0_2) (hB : Below w0.heap.size w0 w) (h : spec_l17Draw.f s0_0 s0_1 s0_2 = some (r1, r2, r3, r4, r5)) :
    Calls Try.prog 58 #[.pointer (some ⟨g, 0, none⟩)] w fun e w' => e = .returned (.agg #[.int .i64 r1, .int .i64 r2, .string r3]) ∧ IsS96 w0 w' g s0_0 r4 r5 ∧ Below w0.heap.size w0 w' ∧ KeepBut w w' g none := by
  have hu37 := Try.underlying37
  have HI0 := aM hI
  have HK := aM (KeepBut.refl w g none)
  have HL := aM hB.size
  clear hI
  have HW0 := aM hB.size
  have HB := aM hB
  clear hB
  have H := h
  unfold spec_l17Draw.f at H
  clear h
  replace H := bE H; obtain ⟨⟨t102, t103, t104, t105, t106⟩, A2, H⟩ := H
  try dsimp only at H
  replace H := bE H; obtain ⟨⟨t108, t109, t110⟩, A3, H⟩ := H
  try dsimp only at H
  go_enter Try.func58, Try.ntmps58
  go_wp2_with (first | ((with_reducible refine gate_dst (N := 2) rfl ?_); refine boxE 2 #[.int .i64 0, .int .i64 0, .string (⟨#[]⟩ : ByteArray)] 37 ?_; intro gbz1 hg wz1 hbox hb; have BKz1 := aM (hbox); have GWz1 := aM ((by rw [hg]; exact (keep_size (w := w) (g := g) (row := none) (kX HK.out)) : w.heap.size ≤ gbz1)); have GEz1 := aM ((Nat.le_trans HW0.out (by rw [hg]; exact (keep_size (w := w) (g := g) (row := none) (kX HK.out)) : w.heap.size ≤ gbz1) : w0.heap.size ≤ gbz1)); have NBz1 := aM ((by rw [hg]; exact Nat.ne_of_lt (IsS96.lt (show IsS96 w0 _ g s0_0 s0_1 s0_2 from (i96 HI0.out))) : g ≠ gbz1)); have NBz2 := aM ((by rw [hg]; exact Nat.ne_of_gt (IsS96.lt (show IsS96 w0 _ g s0_0 s0_1 s0_2 from (i96 HI0.out))) : gbz1 ≠ g)); replace HK := aM (KeepBut.trans (kX HK.out) (KeepBut.of_below hb g none) (.inl rfl)); replace HB := aM (below_step (hY HB.out (IsS96.ge HI0.out)) hb); replace HI0 := aM (IsS96.below (i96 HI0.out) hb); clear hb hbox hg) | ((with_reducible refine gate_callee (f := 50) rfl ?_); refine goesM 50 5 Try.func50 #[.pointer (some ⟨g, 0, none⟩)] ?_; refine (spec_l17DrawRight.calls g s0_0 s0_1 s0_2 t102 t103 t104 t105 t106 w0 _ (by repeat (first | (with_reducible first | exact HI0.out | apply IsS96.alloc | apply IsS96.drewN | apply IsS96.drew | apply IsS96.set_1 | apply IsS96.set_2 | refine IsS96.far ?_ NBz1.out _) | exact HI0.out)) (by repeat (first | (with_reducible first | exact HB.out | apply below_alloc | apply pw_below_drewN | apply below_drew1 | refine below_set ?_ (IsS96.ge HI0.out) | refine below_set ?_ GEz1.out) | exact HB.out)) A2.out).mono ?_; rintro e wz2 ⟨rfl, hi, hb, hk⟩; refine ⟨_, rfl, ?_⟩; replace BKz1 := aM (KeepBut.blk hk (g' := gbz1) (o := .cells #[.int .i64 0, .int .i64 0, .string (⟨#[]⟩ : ByteArray)] 37 (0, 0)) (bX BKz1.out) NBz2.out (by simp)); replace HK := aM (KeepBut.trans (kX HK.out) hk (.inl rfl)); replace HB := aM (hb); replace HI0 := aM (hi); clear hb hk hi) | ((with_reducible refine gate_dst (N := 3) rfl ?_); refine boxE 3 #[.int .i64 0, .int .i64 0, .string (⟨#[]⟩ : ByteArray)] 37 ?_; intro gbz2 hg wz3 hbox hb; have BKz2 := aM (hbox); have GWz2 := aM ((by rw [hg]; exact (keep_size (w := w) (g := g) (row := none) (kX HK.out)) : w.heap.size ≤ gbz2)); have GEz2 := aM ((Nat.le_trans HW0.out (by rw [hg]; exact (keep_size (w := w) (g := g) (row := none) (kX HK.out)) : w.heap.size ≤ gbz2) : w0.heap.size ≤ gbz2)); have NBz3 := aL hg BKz1; have NBz4 := aR hg BKz1; have NBz5 := aM ((by rw [hg]; exact Nat.ne_of_lt (IsS96.lt (show IsS96 w0 _ g s0_0 t105 t106 from (i96 HI0.out))) : g ≠ gbz2)); have NBz6 := aM ((by rw [hg]; exact Nat.ne_of_gt (IsS96.lt (show IsS96 w0 _ g s0_0 t105 t106 from (i96 HI0.out))) : gbz2 ≠ g)); replace BKz1 := aB BKz1 hb; replace HK := aM (KeepBut.trans (kX HK.out) (KeepBut.of_below hb g none) (.inl rfl)); replace HB := aM (below_step (hY HB.out (IsS96.ge HI0.out)) hb); replace HI0 := aM (IsS96.below (i96 HI0.out) hb); clear hb hbox hg; have hnbz1 := NBz4.out; have hncz1 := NBz3.out; have hnbz2 := NBz6.out; have hncz2 := NBz5.out; obtain ⟨hczz1, hczz2, hczz3, hfzz1, hfzz2, hfzz3⟩ := cZ3 BKz2.out; refine Stop.out ?_))
  refine ⟨?_⟩
  by_cases c4 : t108 = 0
  · rw [if_pos c4] at H
    obtain ⟨c4b0, c4b1⟩ := eqT c4
    clear c4
    replace H := bE H; obtain ⟨⟨t111, t112, t113⟩, A5, H⟩ := H
    try dsimp only at H
    simp only [Option.some.injEq, Prod.mk.injEq] at H
    obtain ⟨rfl, rfl, rfl, rfl, rfl⟩ := H
    go_wp2_with (first | ((with_reducible refine gate_callee (f := 49) rfl ?_); refine goesM 49 7 Try.func49 #[.pointer (some ⟨g, 0, none⟩), .int .i64 12] ?_; refine (spec_l1Below.calls g s0_0 t105 t106 12 t108 t109 t110 w0 _ (by repeat (first | (with_reducible first | exact HI0.out | apply IsS96.alloc | apply IsS96.drewN | apply IsS96.drew | apply IsS96.set_1 | apply IsS96.set_2 | refine IsS96.far ?_ NBz1.out _ | refine IsS96.far ?_ NBz5.out _) | exact HI0.out)) (by repeat (first | (with_reducible first | exact HB.out | apply below_alloc | apply pw_below_drewN | apply below_drew1 | refine below_set ?_ (IsS96.ge HI0.out) | refine below_set ?_ GEz1.out | refine below_set ?_ GEz2.out) | exact HB.out)) A3.out).mono ?_; rintro e wz4 ⟨rfl, hi, hb, hk⟩; refine ⟨_, rfl, ?_⟩; replace BKz1 := aM (KeepBut.blk hk (g' := gbz1) (o := .cells #[.int .i64 0, .int .i64 0, .string (⟨#[]⟩ : ByteArray)] 37 (0, 0)) (bF BKz1.out) NBz2.out (by simp)); replace BKz2 := aM (KeepBut.blk hk (g' := gbz2) (o := .cells #[.int .i64 t102, .int .i64 t103, .string t104] 37 (0, 0)) (bP BKz2.out) NBz6.out (by simp)); replace HK := aM (KeepBut.trans (kX HK.out) hk (.inl rfl)); replace HB := aM (hb); replace HI0 := aM (hi); clear hb hk hi) | ((with_reducible refine gate_callee (f := 49) rfl ?_); refine goesM 49 11 Try.func49 #[.pointer (some ⟨g, 0, none⟩), .int .i64 6] ?_; refine (spec_l1Below.calls g s0_0 t109 t110 6 t111 t112 t113 w0 _ (by repeat (first | (with_reducible first | exact HI0.out | apply IsS96.alloc | apply IsS96.drewN | apply IsS96.drew | apply IsS96.set_1 | apply IsS96.set_2 | refine IsS96.far ?_ NBz1.out _ | refine IsS96.far ?_ NBz5.out _) | exact HI0.out)) (by repeat (first | (with_reducible first | exact HB.out | apply below_alloc | apply pw_below_drewN | apply below_drew1 | refine below_set ?_ (IsS96.ge HI0.out) | refine below_set ?_ GEz1.out | refine below_set ?_ GEz2.out) | exact HB.out)) A5.out).mono ?_; rintro e wz5 ⟨rfl, hi, hb, hk⟩; refine ⟨_, rfl, ?_⟩; replace BKz1 := aM (KeepBut.blk hk (g' := gbz1) (o := .cells #[.int .i64 0, .int .i64 0, .string (⟨#[]⟩ : ByteArray)] 37 (0, 0)) (bX BKz1.out) NBz2.out (by simp)); replace BKz2 := aM (KeepBut.blk hk (g' := gbz2) (o := .cells #[.int .i64 t102, .int .i64 t103, .string t104] 37 (0, 0)) (bX BKz2.out) NBz6.out (by simp)); replace HK := aM (KeepBut.trans (kX HK.out) hk (.inl rfl)); replace HB := aM (hb); replace HI0 := aM (hi); clear hb hk hi; obtain ⟨hczz4, hczz5, hczz6, hfzz4, hfzz5, hfzz6⟩ := cZ3 BKz2.out; have hnbz3 := NBz2.out; have hncz3 := NBz1.out; obtain ⟨hczz7, hczz8, hczz9, hfzz7, hfzz8, hfzz9⟩ := cZ3 BKz1.out))
    refine bodyPost_ret (results_cell_row rfl _ _ gbz1 37 #[.int .i64 (wrap64 (t111 - 1)), .int .i64 t103, .string t104] (0, 0) _ rfl (bP BKz1.out) Try.underlying37 rfl (by kernel_rfl)) rfl ?_
    exact ⟨rE, (i96 HI0.out), (hY HB.out (IsS96.ge HI0.out)), (kX HK.out)⟩
  rw [if_neg c4] at H
  obtain ⟨c4b0, c4b1⟩ := eqF c4
  by_cases c17 : t108 = 1
  case neg =>
    rw [if_neg c17] at H
    obtain ⟨c17b0, c17b1⟩ := eqF c17
    go_wp2_with (first | ((with_reducible refine gate_callee (f := 49) rfl ?_); refine goesM 49 7 Try.func49 #[.pointer (some ⟨g, 0, none⟩), .int .i64 12] ?_; refine (spec_l1Below.calls g s0_0 t105 t106 12 t108 t109 t110 w0 _ (by repeat (first | (with_reducible first | exact HI0.out | apply IsS96.alloc | apply IsS96.drewN | apply IsS96.drew | apply IsS96.set_1 | apply IsS96.set_2 | refine IsS96.far ?_ NBz1.out _ | refine IsS96.far ?_ NBz5.out _) | exact HI0.out)) (by repeat (first | (with_reducible first | exact HB.out | apply below_alloc | apply pw_below_drewN | apply below_drew1 | refine below_set ?_ (IsS96.ge HI0.out) | refine below_set ?_ GEz1.out | refine below_set ?_ GEz2.out) | exact HB.out)) A3.out).mono ?_; rintro e wz4 ⟨rfl, hi, hb, hk⟩; refine ⟨_, rfl, ?_⟩; replace BKz1 := aM (KeepBut.blk hk (g' := gbz1) (o := .cells #[.int .i64 0, .int .i64 0, .string (⟨#[]⟩ : ByteArray)] 37 (0, 0)) (bF BKz1.out) NBz2.out (by simp)); replace BKz2 := aM (KeepBut.blk hk (g' := gbz2) (o := .cells #[.int .i64 t102, .int .i64 t103, .string t104] 37 (0, 0)) (bP BKz2.out) NBz6.out (by simp)); replace HK := aM (KeepBut.trans (kX HK.out) hk (.inl rfl)); replace HB := aM (hb); replace HI0 := aM (hi); clear hb hk hi; obtain ⟨hczz4, hczz5, hczz6, hfzz4, hfzz5, hfzz6⟩ := cZ3 BKz2.out; have hnbz3 := NBz2.out; have hncz3 := NBz1.out; obtain ⟨hczz7, hczz8, hczz9, hfzz7, hfzz8, hfzz9⟩ := cZ3 BKz1.out; refine Stop.out ?_))
    refine ⟨?_⟩
    by_cases c33 : t108 = 2
    case neg =>
      rw [if_neg c33] at H
      obtain ⟨c33b0, c33b1⟩ := eqF c33
      simp only [Option.some.injEq, Prod.mk.injEq] at H
      obtain ⟨rfl, rfl, rfl, rfl, rfl⟩ := H
      go_wp2
      refine bodyPost_ret (results_cell_row rfl _ _ gbz1 37 #[.int .i64 t102, .int .i64 t103, .string t104] (0, 0) _ rfl (bP BKz1.out) Try.underlying37 rfl (by kernel_rfl)) rfl ?_
      exact ⟨rE, (i96 HI0.out), (hY HB.out (IsS96.ge HI0.out)), (kX HK.out)⟩
    rw [if_pos c33] at H
    obtain ⟨c33b0, c33b1⟩ := eqT c33
    clear c33
    replace H := ifP H; obtain ⟨c34, H⟩ := H
    have c34b0 := eq_true c34
    have c34b1 := decide_eq_true c34
    try have c34b2 : (9223372036854775807 < t104.size + 20) = False := eq_false (Nat.not_lt.2 c34)
    simp only [Option.some.injEq, Prod.mk.injEq] at H
    obtain ⟨rfl, rfl, rfl, rfl, rfl⟩ := H
    go_wp2
    refine bodyPost_ret (results_cell_row rfl _ _ gbz1 37 #[.int .i64 t102, .int .i64 t103, .string (t104 ++ (⟨#[97, 97, 97, 97, 97, 97, 97, 97, 97, 97, 97, 97, 97, 97, 97, 97, 97, 97, 97, 97]⟩ : ByteArray))] (0, 0) _ rfl (bP BKz1.out) Try.underlying37 rfl (by kernel_rfl)) rfl ?_
    exact ⟨rE, (i96 HI0.out), (hY HB.out (IsS96.ge HI0.out)), (kX HK.out)⟩
  rw [if_pos c17] at H
  obtain ⟨c17b0, c17b1⟩ := eqT c17
  clear c17
  obtain ⟨y114, hy114⟩ : ∃ y_ : List Int, y_ = (([2, 1000000000001, (-9223372036854775808)] : List Int)) := ⟨_, rfl⟩
  replace H : ((spec_l1PickInt.f s0_0 t109 t110 y114).bind fun bt117 => (some (t102, bt117.1, t104, bt117.2.1, bt117.2.2))) = some (r1, r2, r3, r4, r5) := yH H hy114
  have Ny114 := aM hy114
  clear hy114
  replace H := bE H; obtain ⟨⟨t117, t118, t119⟩, A18, H⟩ := H
  try dsimp only at H
  simp only [Option.some.injEq, Prod.mk.injEq] at H
  obtain ⟨rfl, rfl, rfl, rfl, rfl⟩ := H
  go_wp2_with (first | ((with_reducible refine gate_callee (f := 49) rfl ?_); refine goesM 49 7 Try.func49 #[.pointer (some ⟨g, 0, none⟩), .int .i64 12] ?_; refine (spec_l1Below.calls g s0_0 t105 t106 12 t108 t109 t110 w0 _ (by repeat (first | (with_reducible first | exact HI0.out | apply IsS96.alloc | apply IsS96.drewN | apply IsS96.drew | apply IsS96.set_1 | apply IsS96.set_2 | refine IsS96.far ?_ NBz1.out _ | refine IsS96.far ?_ NBz5.out _) | exact HI0.out)) (by repeat (first | (with_reducible first | exact HB.out | apply below_alloc | apply pw_below_drewN | apply below_drew1 | refine below_set ?_ (IsS96.ge HI0.out) | refine below_set ?_ GEz1.out | refine below_set ?_ GEz2.out) | exact HB.out)) A3.out).mono ?_; rintro e wz4 ⟨rfl, hi, hb, hk⟩; refine ⟨_, rfl, ?_⟩; replace BKz1 := aM (KeepBut.blk hk (g' := gbz1) (o := .cells #[.int .i64 0, .int .i64 0, .string (⟨#[]⟩ : ByteArray)] 37 (0, 0)) (bF BKz1.out) NBz2.out (by simp)); replace BKz2 := aM (KeepBut.blk hk (g' := gbz2) (o := .cells #[.int .i64 t102, .int .i64 t103, .string t104] 37 (0, 0)) (bP BKz2.out) NBz6.out (by simp)); replace HK := aM (KeepBut.trans (kX HK.out) hk (.inl rfl)); replace HB := aM (hb); replace HI0 := aM (hi); clear hb hk hi) | ((with_reducible refine gate_dst (N := 17) rfl ?_); refine Kd.R_lit (Kd.int .i64) _ 3 ?hg (N := 17) ?hd (xs := ([2, 1000000000001, (-9223372036854775808)] : List Int)) (inner := [.int .i64 2, .int .i64 1000000000001, .int .i64 (-9223372036854775808)]) (ok := fun _ => True) (okp := fun _ => True) ?hr ?hp (fun _ hk => hk) trivial (Below.refl _ _) (Nat.le_refl _) (by simp) ?_; (case hd => rfl); (case hg => rfl); (case hr => first | (go_simp; done) | (go_simp; rfl)); (case hp => exact (Reps.one (show Kd.M (Kd.int .i64) _ _ _ 2 [.int .i64 2] from rfl) (Reps.one (show Kd.M (Kd.int .i64) _ _ _ 1000000000001 [.int .i64 1000000000001] from rfl) (Reps.one (show Kd.M (Kd.int .i64) _ _ _ (-9223372036854775808) [.int .i64 (-9223372036854775808)] from rfl) (Reps.none _ _))))); intro vz1 wz5 hoz1 hb hg_ hnew_; clear hg_ hnew_; (first | rw [← Ny114.out] at hoz1 | (simp only [Int.reduceToNat] at hoz1; rw [← Ny114.out] at hoz1)); have HOz1 := aM (Kd.R_lower hoz1 (keep_size (w := w) (g := g) (row := none) (kX HK.out))); replace BKz1 := aB BKz1 hb; replace BKz2 := aB BKz2 hb; replace HK := aM (KeepBut.trans (kX HK.out) (KeepBut.of_below hb g none) (.inl rfl)); replace HB := aM (below_step (hY HB.out (IsS96.ge HI0.out)) hb); replace HI0 := aM (IsS96.below (i96 HI0.out) hb); clear hb hoz1; obtain ⟨Aoz1, coz1, eoz1⟩ := Kd.R_slice HOz1.out; subst eoz1) | ((with_reducible refine gate_callee (f := 73) rfl ?_); refine goesM 73 18 Try.func73 #[.pointer (some ⟨g, 0, none⟩), .slice Aoz1 y114.length coz1] ?_; refine (spec_l1PickInt.calls g s0_0 t109 t110 _ _ y114 t117 t118 t119 w0 _ (by repeat (first | (with_reducible first | exact HI0.out | apply IsS96.alloc | apply IsS96.drewN | apply IsS96.drew | apply IsS96.set_1 | apply IsS96.set_2 | refine IsS96.far ?_ NBz1.out _ | refine IsS96.far ?_ NBz5.out _) | exact HI0.out)) (by repeat (first | (with_reducible first | exact HB.out | apply below_alloc | apply pw_below_drewN | apply below_drew1 | refine below_set ?_ (IsS96.ge HI0.out) | refine below_set ?_ GEz1.out | refine below_set ?_ GEz2.out) | exact HB.out)) (cX (Kd.R_reads' HOz1.out).2.2) ((Kd.R_reads' HOz1.out).2.1) (by exact far_slice (IsS96.own_ne HI0.out HOz1.out (by decide))) A18.out).mono ?_; rintro e wz6 ⟨rfl, hi, hb, hk⟩; refine ⟨_, rfl, ?_⟩; replace BKz1 := aM (KeepBut.blk hk (g' := gbz1) (o := .cells #[.int .i64 0, .int .i64 0, .string (⟨#[]⟩ : ByteArray)] 37 (0, 0)) (bX BKz1.out) NBz2.out (by simp)); replace BKz2 := aM (KeepBut.blk hk (g' := gbz2) (o := .cells #[.int .i64 t102, .int .i64 t103, .string t104] 37 (0, 0)) (bX BKz2.out) NBz6.out (by simp)); replace HOz1 := aM (Kd.R_mono (Kd.R_keep (IsS96.apart (show IsS96 w0 _ g s0_0 t109 t110 from (i96 HI0.out)) (rX HOz1.out) (by decide)) hk (fun _ h => h.2)) (fun _ h => h.1)); replace HK := aM (KeepBut.trans (kX HK.out) hk (.inl rfl)); replace HB := aM (hb); replace HI0 := aM (hi); clear hb hk hi; obtain ⟨hczz4, hczz5, hczz6, hfzz4, hfzz5, hfzz6⟩ := cZ3 BKz2.out; have hnbz3 := NBz2.out; have hncz3 := NBz1.out; obtain ⟨hczz7, hczz8, hczz9, hfzz7, hfzz8, hfzz9⟩ := cZ3 BKz1.out))
  refine bodyPost_ret (results_cell_row rfl _ _ gbz1 37 #[.int .i64 t102, .int .i64 t117, .string t104] (0, 0) _ rfl (bP BKz1.out) Try.underlying37 rfl (by kernel_rfl)) rfl ?_
  exact ⟨rE, (i96 HI0.out), (hY HB.out (IsS96.ge HI0.out)), (kX HK.out)⟩
def spec_l1Once.f (s0_0 : List Int) (s0_1 : Int) (s0_2 : Int) (a1 : Int) : Option (Bool × Int × Int) := (spec_l1Below.f s0_0 s0_1 s0_2 a1).bind fun bt101 => (some ((bt101.1 == 0), bt101.2.1, bt101.2.2))
set_option maxHeartbeats 8000000 in
set_option maxRecDepth 100000 in
theorem spec_l1Once.calls (g : Nat) (s0_0 : List Int) (s0_1 : Int) (s0_2 : Int) (a1 : Int) (r1 : Bool) (r2 : Int) (r3 : Int) (w0 w : World) (hI : IsS96 w0 w g s0_0 s0_1 s0_2) (hB : Below w0.heap.size w0 w) (h : spec_l1Once.f s0_0 s0_1 s0_2 a1 = some (r1, r2, r3)) :
    Calls Try.prog 59 #[.pointer (some ⟨g, 0, none⟩), .int .i64 a1] w fun e w' => e = .returned (.bool r1) ∧ IsS96 w0 w' g s0_0 r2 r3 ∧ Below w0.heap.size w0 w' ∧ KeepBut w w' g none := by
  have HI0 := aM hI
  have HK := aM (KeepBut.refl w g none)
  have HL := aM hB.size
  clear hI
  have HW0 := aM hB.size
  have HB := aM hB
  clear hB
  have H := h
  unfold spec_l1Once.f at H
  clear h
  replace H := bE H; obtain ⟨⟨t101, t102, t103⟩, A3, H⟩ := H
  try dsimp only at H
  simp only [Option.some.injEq, Prod.mk.injEq] at H
  obtain ⟨rfl, rfl, rfl⟩ := H
  go_enter Try.func59, Try.ntmps59
  go_wp2_with (first | (refine goesM 49 7 Try.func49 #[.pointer (some ⟨g, 0, none⟩), .int .i64 a1] ?_; refine (spec_l1Below.calls g s0_0 s0_1 s0_2 a1 t101 t102 t103 w0 _ (by repeat (first | (with_reducible first | exact HI0.out | apply IsS96.alloc | apply IsS96.drewN | apply IsS96.drew | apply IsS96.set_1 | apply IsS96.set_2) | exact HI0.out)) (by repeat (first | (with_reducible first | exact HB.out | apply below_alloc | apply pw_below_drewN | apply below_drew1 | refine below_set ?_ (IsS96.ge HI0.out)) | exact HB.out)) A3.out).mono ?_; rintro e wz1 ⟨rfl, hi, hb, hk⟩; refine ⟨_, rfl, ?_⟩; replace HK := aM (KeepBut.trans (kX HK.out) hk (.inl rfl)); replace HB := aM (hb); replace HI0 := aM (hi); clear hb hk hi))
  go_ret
  exact ⟨rE, (i96 HI0.out), (hY HB.out (IsS96.ge HI0.out)), (kX HK.out)⟩
def spec_l18Draw.f (k : Nat) (s0_0 : List Int) (s0_1 : Int) (s0_2 : Int) : Option ((List (S37)) × Int × Int) := (spec_l18DrawRight.f k s0_0 s0_1 s0_2).bind fun bt101 => ((spec_l1Once.f s0_0 bt101.2.1 bt101.2.2 6).bind fun bt106 => (if bt106.1 = true then ((spec_l17Draw.f s0_0 bt106.2.1 bt106.2.2).bind fun bt109 => (if bt101.1.length < 4398046511104 then (some ((bt101.1 ++ [(⟨bt109.1, bt109.2.1, bt109.2.2.1⟩ : S37)]), bt109.2.2.2.1, bt109.2.2.2.2)) else (none))) else (some (bt101.1, bt106.2.1, bt106.2.2))))
set_option maxHeartbeats 8000000 in
set_option maxRecDepth 100000 in
theorem spec_l18Draw.calls (k : Nat) (g : Nat) (s0_0 : List Int) (s0_1 : Int) (s0_2 : Int) (r1 : List (S37)) (r2 : Int) (r3 : Int) (w0 w : World) (hI : IsS96 w0 w g s0_0 s0_1 s0_2) (hB : Below w0.heap.size w0 w) (h : spec_l18Draw.f k s0_0 s0_1 s0_2 = some (r1, r2, r3)) :
    Calls Try.prog 48 #[.pointer (some ⟨g, 0, none⟩)] w fun e w' => ∃ v0_ : Value, e = .returned (v0_) ∧ Kd.R k37 37 w' w.heap.size (fun _ => True) v0_ r1 ∧ IsS96 w0 w' g s0_0 r2 r3 ∧ Below w0.heap.size w0 w' ∧ KeepBut w w' g none := by
  have HI0 := aM hI
  have HK := aM (KeepBut.refl w g none)
  have HL := aM hB.size
  clear hI
  have HW0 := aM hB.size
  have HB := aM hB
  clear hB
  have H := h
  unfold spec_l18Draw.f at H
  clear h
  replace H := bE H; obtain ⟨⟨t101, t104, t105⟩, A2, H⟩ := H
  try dsimp only at H
  replace H := bE H; obtain ⟨⟨t106, t107, t108⟩, A3, H⟩ := H
  try dsimp only at H
  go_enter Try.func48, Try.ntmps48
  go_wp2_with (first | ((with_reducible refine gate_callee (f := 55) rfl ?_); refine goesM 55 5 Try.func55 #[.pointer (some ⟨g, 0, none⟩)] ?_; refine (spec_l18DrawRight.calls k g s0_0 s0_1 s0_2 t101 t104 t105 w0 _ (by repeat (first | (with_reducible first | exact HI0.out | apply IsS96.alloc | apply IsS96.drewN | apply IsS96.drew | apply IsS96.set_1 | apply IsS96.set_2) | exact HI0.out)) (by repeat (first | (with_reducible first | exact HB.out | apply below_alloc | apply pw_below_drewN | apply below_drew1 | refine below_set ?_ (IsS96.ge HI0.out)) | exact HB.out)) A2.out).mono ?_; rintro e wz1 ⟨vz1, rfl, hoz1, hi, hb, hk⟩; refine ⟨_, rfl, ?_⟩; have HOz1 := aM (Kd.R_lower hoz1 (keep_size (w := w) (g := g) (row := none) (kX HK.out))); replace HK := aM (KeepBut.trans (kX HK.out) hk (.inl rfl)); replace HB := aM (hb); replace HI0 := aM (hi); clear hb hk hi hoz1; refine Stop.out ?_))
  refine ⟨?_⟩
  by_cases c4 : t106 = true
  case neg =>
    replace c4 := Bool.eq_false_iff.mpr c4
    subst c4
    rw [if_neg nft] at H
    simp only [Option.some.injEq, Prod.mk.injEq] at H
    obtain ⟨rfl, rfl, rfl⟩ := H
    go_wp2_with (first | ((with_reducible refine gate_callee (f := 59) rfl ?_); refine goesM 59 7 Try.func59 #[.pointer (some ⟨g, 0, none⟩), .int .i64 6] ?_; refine (spec_l1Once.calls g s0_0 t104 t105 6 false t107 t108 w0 _ (by repeat (first | (with_reducible first | exact HI0.out | apply IsS96.alloc | apply IsS96.drewN | apply IsS96.drew | apply IsS96.set_1 | apply IsS96.set_2) | exact HI0.out)) (by repeat (first | (with_reducible first | exact HB.out | apply below_alloc | apply pw_below_drewN | apply below_drew1 | refine below_set ?_ (IsS96.ge HI0.out)) | exact HB.out)) A3.out).mono ?_; rintro e wz2 ⟨rfl, hi, hb, hk⟩; refine ⟨_, rfl, ?_⟩; replace HOz1 := aM (Kd.R_mono (Kd.R_keep (IsS96.apart (show IsS96 w0 _ g s0_0 t104 t105 from (i96 HI0.out)) (rX HOz1.out) (by decide)) hk (fun _ h => h.2)) (fun _ h => h.1)); replace HK := aM (KeepBut.trans (kX HK.out) hk (.inl rfl)); replace HB := aM (hb); replace HI0 := aM (hi); clear hb hk hi))
    go_ret
    exact ⟨_, rE, (rX HOz1.out), (i96 HI0.out), (hY HB.out (IsS96.ge HI0.out)), (kX HK.out)⟩
  subst c4
  rw [if_pos rfl] at H
  replace H := bE H; obtain ⟨⟨t109, t110, t111, t112, t113⟩, A5, H⟩ := H
  try dsimp only at H
  replace H := ifP H; obtain ⟨c6, H⟩ := H
  have LMc6 := aM c6
  clear c6
  obtain ⟨y114, hy114⟩ : ∃ y_ : List (S37), y_ = (t101 ++ [(⟨t109, t110, t111⟩ : S37)]) := ⟨_, rfl⟩
  replace H : (some (y114, t112, t113)) = some (r1, r2, r3) := yH H hy114
  have Ny114 := aM hy114
  clear hy114
  simp only [Option.some.injEq, Prod.mk.injEq] at H
  obtain ⟨rfl, rfl, rfl⟩ := H
  go_wp2_with (first | ((with_reducible refine gate_callee (f := 59) rfl ?_); refine goesM 59 7 Try.func59 #[.pointer (some ⟨g, 0, none⟩), .int .i64 6] ?_; refine (spec_l1Once.calls g s0_0 t104 t105 6 true t107 t108 w0 _ (by repeat (first | (with_reducible first | exact HI0.out | apply IsS96.alloc | apply IsS96.drewN | apply IsS96.drew | apply IsS96.set_1 | apply IsS96.set_2) | exact HI0.out)) (by repeat (first | (with_reducible first | exact HB.out | apply below_alloc | apply pw_below_drewN | apply below_drew1 | refine below_set ?_ (IsS96.ge HI0.out)) | exact HB.out)) A3.out).mono ?_; rintro e wz2 ⟨rfl, hi, hb, hk⟩; refine ⟨_, rfl, ?_⟩; replace HOz1 := aM (Kd.R_mono (Kd.R_keep (IsS96.apart (show IsS96 w0 _ g s0_0 t104 t105 from (i96 HI0.out)) (rX HOz1.out) (by decide)) hk (fun _ h => h.2)) (fun _ h => h.1)); replace HK := aM (KeepBut.trans (kX HK.out) hk (.inl rfl)); replace HB := aM (hb); replace HI0 := aM (hi); clear hb hk hi) | ((with_reducible refine gate_callee (f := 58) rfl ?_); refine goesM 58 10 Try.func58 #[.pointer (some ⟨g, 0, none⟩)] ?_; refine (spec_l17Draw.calls g s0_0 t107 t108 t109 t110 t111 t112 t113 w0 _ (by repeat (first | (with_reducible first | exact HI0.out | apply IsS96.alloc | apply IsS96.drewN | apply IsS96.drew | apply IsS96.set_1 | apply IsS96.set_2) | exact HI0.out)) (by repeat (first | (with_reducible first | exact HB.out | apply below_alloc | apply pw_below_drewN | apply below_drew1 | refine below_set ?_ (IsS96.ge HI0.out)) | exact HB.out)) A5.out).mono ?_; rintro e wz3 ⟨rfl, hi, hb, hk⟩; refine ⟨_, rfl, ?_⟩; replace HOz1 := aM (Kd.R_mono (Kd.R_keep (IsS96.apart (show IsS96 w0 _ g s0_0 t107 t108 from (i96 HI0.out)) (rX HOz1.out) (by decide)) hk (fun _ h => h.2)) (fun _ h => h.1)); replace HK := aM (KeepBut.trans (kX HK.out) hk (.inl rfl)); replace HB := aM (hb); replace HI0 := aM (hi); clear hb hk hi) | ((with_reducible refine gate_builtin (b := .append) (xs := #[.tmp 8, .tmp 11]) rfl ?_); at_builtin; refine Kd.R_append k37 w.heap.size rfl (.tmp 8) (.tmp 11) 24 37 (.agg #[(.int .i64 0), (.int .i64 0), (.string ⟨#[]⟩)]) 32 rfl Try.underlying24 info37 rfl (by decide) (by omega) vz1 t101 (⟨t109, t110, t111⟩ : S37) [.int .i64 t109, .int .i64 t110, .string t111] (fun _ => True) (fun _ => False) rfl rfl ?aP (fun _ hk => hk.elim) ?aF ?aO (Below.refl _ _) ?aS ?aL ?_; (case aP => exact k37_mkM _ _ _ (⟨t109, t110, t111⟩ : S37)); (case aF => exact (fun _ _ => trivial)); (case aO => exact (rX HOz1.out)); (case aS => exact (keep_size (w := w) (g := g) (row := none) (kX HK.out))); (case aL => have := LMc6.out; omega); intro vz2 wz4 ho hb hg hat; rw [← Ny114.out] at ho; have HOz2 := aM (ho); replace HB := aM (below_weaken (hY HB.out (IsS96.ge HI0.out)) HL.out hb); replace HI0 := aM (IsS96.grown (i96 HI0.out) hg (IsS96.own_ne HI0.out HOz1.out (by decide))); replace HK := aM (KeepBut.trans (kX HK.out) (KeepBut.of_grown hg g) (Kd.R_base2 HOz1.out)); clear HOz1; clear ho hb hg hat))
  go_ret
  exact ⟨_, rE, (rX HOz2.out), (i96 HI0.out), (hY HB.out (IsS96.ge HI0.out)), (kX HK.out)⟩
def spec_DrawTupleBytes.f (k : Nat) (l0 : List Int) : Option ((List (S37))) := (spec_l1New.f k l0).bind fun bt101 => ((spec_l18Draw.f k bt101.1 bt101.2.1 bt101.2.2).bind fun bt105 => (some bt105.1))
set_option maxHeartbeats 8000000 in
set_option maxRecDepth 100000 in
theorem spec_DrawTupleBytes.calls (k : Nat) (A0 : Option Addr) (c0 : Nat) (l0 : List Int) (r : List (S37)) (w : World) (hr0 : Kd.C (Kd.int .u8) w A0 l0.length l0) (hc0 : l0.length ≤ c0) (h : spec_DrawTupleBytes.f k l0 = some r) :
    Calls Try.prog 20 #[.slice A0 l0.length c0] w fun e w' => ∃ v0_ : Value, e = .returned (v0_) ∧ Kd.R k37 37 w' w.heap.size (fun _ => True) v0_ r ∧ Below w.heap.size w w' := by
  have HR0 := aM hr0
  have HC0 := aM hc0
  clear hr0 hc0
  have HB := aM (Below.refl w.heap.size w)
  have H := h
  unfold spec_DrawTupleBytes.f at H
  clear h
  replace H := bE H; obtain ⟨⟨t101, t102, t103⟩, A2, H⟩ := H
  try dsimp only at H
  replace H := bE H; obtain ⟨⟨t105, t108, t109⟩, A3, H⟩ := H
  try dsimp only at H
  obtain rfl := sI H
  go_enter Try.func20, Try.ntmps20
  go_wp2_with (first | ((with_reducible refine gate_callee (f := 47) rfl ?_); refine goesM 47 4 Try.func47 #[.slice A0 l0.length c0] ?_; refine (spec_l1New.calls k _ _ l0 t101 t102 t103 w _ (by repeat (first | (with_reducible first | exact HB.out | apply below_alloc | apply pw_below_drewN | apply below_drew1) | exact HB.out)) HR0.out HC0.out A2.out).mono ?_; rintro e wz1 ⟨gz1, rfl, hi, hb, hbz1⟩; refine ⟨_, rfl, ?_⟩; have HIz1 := aM (hi); replace HB := aM (hb); clear hb hbz1 hi) | ((with_reducible refine gate_callee (f := 48) rfl ?_); refine goesM 48 5 Try.func48 #[.pointer (some ⟨gz1, 0, none⟩)] ?_; refine (spec_l18Draw.calls k gz1 t101 t102 t103 t105 t108 t109 w _ (by repeat (first | (with_reducible first | exact HIz1.out | apply IsS96.alloc | apply IsS96.drewN | apply IsS96.drew | apply IsS96.set_1 | apply IsS96.set_2) | exact HIz1.out)) (by repeat (first | (with_reducible first | exact HB.out | apply below_alloc | apply pw_below_drewN | apply below_drew1 | refine below_set ?_ (IsS96.ge HIz1.out)) | exact HB.out)) A3.out).mono ?_; rintro e wz2 ⟨vz1, rfl, hoz1, hi, hb, hk⟩; refine ⟨_, rfl, ?_⟩; have HOz1 := aM (Kd.R_lower hoz1 (below_size (hY HB.out (IsS96.ge HIz1.out)))); replace HB := aM (hb); replace HIz1 := aM (hi); clear hb hk hi hoz1))
  go_ret
  exact ⟨_, rE, (rX HOz1.out), (hY HB.out (IsS96.ge HIz1.out))⟩
def spec_l1In.f (a0 : Int) (a1 : Int) (a2 : Int) : Option (Bool) := if a0 ≥ a1 then (some (decide (a0 ≤ a2))) else (some false)
set_option maxHeartbeats 8000000 in
set_option maxRecDepth 100000 in
theorem spec_l1In.calls (a0 : Int) (a1 : Int) (a2 : Int) (r : Bool) (w : World) (h : spec_l1In.f a0 a1 a2 = some r) :
    Calls Try.prog 57 #[.int .i64 a0, .int .i64 a1, .int .i64 a2] w fun e w' => e = .returned (.bool r) ∧ Drawn0 w w' := by
  have H := h
  unfold spec_l1In.f at H
  clear h
  go_enter Try.func57, Try.ntmps57
  by_cases c4 : a0 ≥ a1
  · rw [if_pos c4] at H
    have c4b0 := decide_eq_true c4
    clear c4
    obtain rfl := sI H
    go_wp2
    go_ret
    exact ⟨by first | rfl | (simp; done) | (simp [*]; done), dX⟩
  rw [if_neg c4] at H
  have c4b0 := decide_eq_false c4
  clear c4
  obtain rfl := sI H
  go_wp2
  go_ret
  exact ⟨by first | rfl | (simp; done) | (simp [*]; done), dX⟩
def spec_ValueOk.f (a0_0 : Int) (a0_1 : Int) (a0_2 : ByteArray) : Option (Bool) := if a0_0 = 0 then (if a0_1 = 0 then (some (a0_2.toList == ([] : List UInt8))) else (some false)) else (if a0_0 = 1 then ((spec_l1In.f a0_1 0 1).bind fun t102 => (if t102 = true then (some (a0_2.toList == ([] : List UInt8))) else (some false))) else (if a0_0 = 2 then ((spec_l1In.f a0_1 (-1000000000000) 1000000000000).bind fun t103 => (if t103 = true then (some (a0_2.toList == ([] : List UInt8))) else (some false))) else (if a0_0 = 3 then (if a0_1 = 0 then (some (decide ((a0_2.size : Int) ≤ 20))) else (some false)) else (some false))))
set_option maxHeartbeats 8000000 in
set_option maxRecDepth 100000 in
theorem spec_ValueOk.calls (a0_0 : Int) (a0_1 : Int) (a0_2 : ByteArray) (r : Bool) (w : World) (h : spec_ValueOk.f a0_0 a0_1 a0_2 = some r) :
    Calls Try.prog 31 #[.agg #[.int .i64 a0_0, .int .i64 a0_1, .string a0_2]] w fun e w' => e = .returned (.bool r) ∧ Below w.heap.size w w' := by
  have hu37 := Try.underlying37
  have HB := aM (Below.refl w.heap.size w)
  have H := h
  unfold spec_ValueOk.f at H
  clear h
  go_enter Try.func31, Try.ntmps31
  go_wp2_with (first | ((with_reducible refine gate_dst (N := 1) rfl ?_); (try (refine gate_guard (by rfl) ?_; dsimp only)); refine boxF 1 #[.int .i64 a0_0, .int .i64 a0_1, .string a0_2] 37 ?_; intro gbz1 hg wz1 hbox hb; have BKz1 := aM (hbox); have GWz1 := aG hg HB; have GEz1 := aG hg HB; replace HB := aS HB hb; clear hb hbox hg; obtain ⟨hczz1, hczz2, hczz3, hfzz1, hfzz2, hfzz3⟩ := cZ3 BKz1.out; refine Stop.out ?_))
  refine ⟨?_⟩
  by_cases c2 : a0_0 = 0
  · rw [if_pos c2] at H
    obtain ⟨c2b0, c2b1⟩ := eqT c2
    clear c2
    by_cases c3 : a0_1 = 0
    case neg =>
      rw [if_neg c3] at H
      obtain ⟨c3b0, c3b1⟩ := eqF c3
      obtain rfl := sI H
      go_wp2
      go_ret
      exact ⟨rE, (hX HB.out)⟩
    rw [if_pos c3] at H
    obtain ⟨c3b0, c3b1⟩ := eqT c3
    clear c3
    obtain rfl := sI H
    go_wp2
    go_ret
    exact ⟨rE, (hX HB.out)⟩
  rw [if_neg c2] at H
  obtain ⟨c2b0, c2b1⟩ := eqF c2
  by_cases c8 : a0_0 = 1
  · rw [if_pos c8] at H
    obtain ⟨c8b0, c8b1⟩ := eqT c8
    clear c8
    replace H := bE H; obtain ⟨t102, A9, H⟩ := H
    by_cases c10 : t102 = true
    · subst c10
      rw [if_pos rfl] at H
      obtain rfl := sI H
      go_wp2_with (first | ((with_reducible refine gate_callee (f := 57) rfl ?_); refine goesM 57 19 Try.func57 #[.int .i64 a0_1, .int .i64 0, .int .i64 1] ?_; refine (spec_l1In.calls _ _ _ _ _ A9.out).mono ?_; rintro e w' ⟨rfl, ⟨nd, rfl⟩⟩; refine ⟨_, rfl, ?_⟩))
      go_ret
      exact ⟨rE, (hX HB.out)⟩
    replace c10 := Bool.eq_false_iff.mpr c10
    subst c10
    rw [if_neg nft] at H
    obtain rfl := sI H
    go_wp2_with (first | ((with_reducible refine gate_callee (f := 57) rfl ?_); refine goesM 57 19 Try.func57 #[.int .i64 a0_1, .int .i64 0, .int .i64 1] ?_; refine (spec_l1In.calls _ _ _ _ _ A9.out).mono ?_; rintro e w' ⟨rfl, ⟨nd, rfl⟩⟩; refine ⟨_, rfl, ?_⟩))
    go_ret
    exact ⟨rE, (hX HB.out)⟩
  rw [if_neg c8] at H
  obtain ⟨c8b0, c8b1⟩ := eqF c8
  by_cases c15 : a0_0 = 2
  case neg =>
    rw [if_neg c15] at H
    obtain ⟨c15b0, c15b1⟩ := eqF c15
    by_cases c22 : a0_0 = 3
    case neg =>
      rw [if_neg c22] at H
      obtain ⟨c22b0, c22b1⟩ := eqF c22
      obtain rfl := sI H
      go_wp2
      go_ret
      exact ⟨rE, (hX HB.out)⟩
    rw [if_pos c22] at H
    obtain ⟨c22b0, c22b1⟩ := eqT c22
    clear c22
    by_cases c23 : a0_1 = 0
    case neg =>
      rw [if_neg c23] at H
      obtain ⟨c23b0, c23b1⟩ := eqF c23
      obtain rfl := sI H
      go_wp2
      go_ret
      exact ⟨rE, (hX HB.out)⟩
    rw [if_pos c23] at H
    obtain ⟨c23b0, c23b1⟩ := eqT c23
    clear c23
    obtain rfl := sI H
    go_wp2
    go_ret
    exact ⟨rE, (hX HB.out)⟩
  rw [if_pos c15] at H
  obtain ⟨c15b0, c15b1⟩ := eqT c15
  clear c15
  replace H := bE H; obtain ⟨t103, A16, H⟩ := H
  by_cases c17 : t103 = true
  · subst c17
    rw [if_pos rfl] at H
    obtain rfl := sI H
    go_wp2_with (first | ((with_reducible refine gate_callee (f := 57) rfl ?_); refine goesM 57 29 Try.func57 #[.int .i64 a0_1, .int .i64 (-1000000000000), .int .i64 1000000000000] ?_; refine (spec_l1In.calls _ _ _ _ _ A16.out).mono ?_; rintro e w' ⟨rfl, ⟨nd, rfl⟩⟩; refine ⟨_, rfl, ?_⟩))
    go_ret
    exact ⟨rE, (hX HB.out)⟩
  replace c17 := Bool.eq_false_iff.mpr c17
  subst c17
  rw [if_neg nft] at H
  obtain rfl := sI H
  go_wp2_with (first | ((with_reducible refine gate_callee (f := 57) rfl ?_); refine goesM 57 29 Try.func57 #[.int .i64 a0_1, .int .i64 (-1000000000000), .int .i64 1000000000000] ?_; refine (spec_l1In.calls _ _ _ _ _ A16.out).mono ?_; rintro e w' ⟨rfl, ⟨nd, rfl⟩⟩; refine ⟨_, rfl, ?_⟩))
  go_ret
  exact ⟨rE, (hX HB.out)⟩
def spec_TupleOk.l0 : Nat → List (S37) → Int → Option (Bool)
  | 0, _, _ => none
  | k + 1, x0, x3 => if x3 < (x0.length : Int) then (if 0 ≤ x3 then ((spec_ValueOk.f ((rd_T37 x0 x3).f0) ((rd_T37 x0 x3).f1) ((rd_T37 x0 x3).f2)).bind fun t102 => (if t102 = true then (spec_TupleOk.l0 k x0 (wrap64 (x3 + 1))) else (some false))) else (none)) else (some (decide ((x0.length : Int) ≤ 4)))
def spec_TupleOk.f (k : Nat) (l0 : List (S37)) : Option (Bool) := spec_TupleOk.l0 k l0 0
set_option maxHeartbeats 8000000 in
set_option maxRecDepth 100000 in
theorem spec_TupleOk.calls (k : Nat) (A0 : Option Addr) (c0 : Nat) (l0 : List (S37)) (r : Bool) (w : World) (hr0 : Kd.C k37 w A0 l0.length l0) (hc0 : l0.length ≤ c0) (h : spec_TupleOk.f k l0 = some r) :
    Calls Try.prog 21 #[.slice A0 l0.length c0] w fun e w' => e = .returned (.bool r) ∧ Below w.heap.size w w' := by
  have hu37 := Try.underlying37
  have HR0 := aM hr0
  have HC0 := aM hc0
  clear hr0 hc0
  have HB := aM (Below.refl w.heap.size w)
  have H := h
  unfold spec_TupleOk.f at H
  clear h
  have H' := aM H
  clear H
  go_enter Try.func21, Try.ntmps21
  go_wp2
  go_loopg [3] k (fun kq v3 w' => ∃ (x3_1 : Int), v3 = .int .i64 x3_1 ∧ Aside0 (spec_TupleOk.l0 kq l0 x3_1 = some r) ∧ Aside0 (kq ≤ k) ∧ Aside0 (Below w.heap.size w w'))
  case atStart => exact ⟨(0), rS, H', ⟨Nat.le_refl _⟩, ⟨(hX HB.out)⟩⟩
  case round =>
    clear H'
    obtain ⟨x3_1, rfl, HA, HKy1, HB⟩ := hrel
    cases gk with
    | zero => exact absurd HA.out (by simp [spec_TupleOk.l0])
    | succ k1 =>
      have H := HA.out
      clear HA
      simp only [spec_TupleOk.l0] at H
      by_cases c2 : x3_1 < (l0.length : Int)
      case neg =>
        rw [if_neg c2] at H
        have c2b0 := decide_eq_false c2
        clear c2
        obtain rfl := sI H
        go_wp2
        go_ret
        exact ⟨rE, (hX HB.out)⟩
      rw [if_pos c2] at H
      have c2b0 := decide_eq_true c2
      clear c2
      replace H := ifP H; obtain ⟨c3, H⟩ := H
      have c3b0 := decide_eq_true c3
      clear c3
      replace H := bE H; obtain ⟨t102, A4, H⟩ := H
      by_cases c5 : t102 = true
      case neg =>
        replace c5 := Bool.eq_false_iff.mpr c5
        subst c5
        rw [if_neg nft] at H
        obtain rfl := sI H
        have px1 : 0 ≤ (x3_1 : Int) := odA
        have qx1 : x3_1 < (l0.length : Int) := odA
        obtain ⟨adx1, ex1, hxx1, hxx2, hxx3⟩ := at_T37b HR0.out HB.out x3_1 px1 qx1
        cases ex1
        replace px1 := eq_true px1
        replace qx1 := eq_true qx1
        go_wp2_with (first | (refine goesM 31 14 Try.func31 #[.agg #[.int .i64 ((rd_T37 l0 x3_1).f0), .int .i64 ((rd_T37 l0 x3_1).f1), .string ((rd_T37 l0 x3_1).f2)]] ?_; refine (spec_ValueOk.calls _ _ _ _ _ A4.out).mono ?_; rintro e wx1 ⟨rfl, hb⟩; refine ⟨_, rfl, ?_⟩; replace HB := aS HB hb; clear hb))
        go_ret
        exact ⟨rE, (hX HB.out)⟩
      subst c5
      rw [if_pos rfl] at H
      have H' := aM H
      clear H
      have px1 : 0 ≤ (x3_1 : Int) := odA
      have qx1 : x3_1 < (l0.length : Int) := odA
      obtain ⟨adx1, ex1, hxx1, hxx2, hxx3⟩ := at_T37b HR0.out HB.out x3_1 px1 qx1
      cases ex1
      replace px1 := eq_true px1
      replace qx1 := eq_true qx1
      go_wp2_with (first | (refine goesM 31 14 Try.func31 #[.agg #[.int .i64 ((rd_T37 l0 x3_1).f0), .int .i64 ((rd_T37 l0 x3_1).f1), .string ((rd_T37 l0 x3_1).f2)]] ?_; refine (spec_ValueOk.calls _ _ _ _ _ A4.out).mono ?_; rintro e wx1 ⟨rfl, hb⟩; refine ⟨_, rfl, ?_⟩; replace HB := aS HB hb; clear hb))
      go_roundg k1
      case measure => have := HKy1.out; omega
      case rel => exact ⟨(wrap64 (x3_1 + 1)), rS, H', ⟨by have := HKy1.out; omega⟩, ⟨(hX HB.out)⟩⟩
mutual
def spec_l18Value.l0 : Nat → List Int → Int → Int → Option (List Int)
  | 0, _, _, _ => none
  | k + 1, x3, x4, x5 => if x5 ≥ 0 then (if 0 ≤ x5 then (if x3.length < 140737488355328 then (spec_l18Value.l0 k (x3 ++ [(Go.bits .and .i64 (shr .i64 x4 x5) 255) % 256]) x4 (wrap64 (x5 - 8))) else (none)) else (none)) else (some x3)
def spec_l18Value.l1 : Nat → List Int → Int → Int → Int → ByteArray → Option (List Int)
  | 0, _, _, _, _, _ => none
  | k + 1, x3, x6, x102000, x102001, x102002 => if x6 < (x102002.size : Int) then (if 0 ≤ x6 then (if x3.length < 140737488355328 then ((some (x3 ++ [bt x102002 x6] : List Int)).bind fun y111 => (if (bt x102002 x6) = 0 then (if y111.length < 140737488355328 then (spec_l18Value.l1 k (y111 ++ [255]) (wrap64 (x6 + 1)) x102000 x102001 x102002) else (none)) else (spec_l18Value.l1 k y111 (wrap64 (x6 + 1)) x102000 x102001 x102002))) else (none)) else (none)) else ((some (([0, 1] : List Int) : List Int)).bind fun y117 => (if x3.length + y117.length < 140737488355328 then (some (x3 ++ y117)) else (none)))
end
def spec_l18Value.f (k : Nat) (a0_0 : Int) (a0_1 : Int) (a0_2 : ByteArray) : Option (List Int) := (some (([(wrap64 (a0_0 + 1)) % 256] : List Int) : List Int)).bind fun y102 => (if a0_0 = 1 then (if y102.length < 140737488355328 then (some (y102 ++ [(a0_1) % 256])) else (none)) else (if a0_0 = 2 then (spec_l18Value.l0 k y102 (wrap64 (a0_1 + 4611686018427387904)) 56) else (if a0_0 = 3 then (spec_l18Value.l1 k y102 0 a0_0 a0_1 a0_2) else (some y102))))
set_option maxHeartbeats 8000000 in
set_option maxRecDepth 100000 in
theorem spec_l18Value.calls (k : Nat) (a0_0 : Int) (a0_1 : Int) (a0_2 : ByteArray) (r : List Int) (w : World) (h : spec_l18Value.f k a0_0 a0_1 a0_2 = some r) :
    Calls Try.prog 77 #[.agg #[.int .i64 a0_0, .int .i64 a0_1, .string a0_2]] w fun e w' => ∃ v0_ : Value, e = .returned (v0_) ∧ Kd.R (Kd.int .u8) 5 w' w.heap.size (fun _ => True) v0_ r ∧ Below w.heap.size w w' := by
  have hu37 := Try.underlying37
  have HB := aM (Below.refl w.heap.size w)
  have H := h
  unfold spec_l18Value.f at H
  clear h
  replace H := sE H; obtain ⟨y102, Ny102, H⟩ := H
  go_enter Try.func77, Try.ntmps77
  go_wp2_with (first | ((with_reducible refine gate_dst (N := 1) rfl ?_); refine boxE 1 #[.int .i64 a0_0, .int .i64 a0_1, .string a0_2] 37 ?_; intro gbz1 hg wz1 hbox hb; have BKz1 := aM (hbox); have GWz1 := aG hg HB; have GEz1 := aG hg HB; replace HB := aS HB hb; clear hb hbox hg; obtain ⟨hczz1, hczz2, hczz3, hfzz1, hfzz2, hfzz3⟩ := cZ3 BKz1.out) | ((with_reducible refine gate_dst (N := 11) rfl ?_); refine Kd.R_lit (Kd.int .u8) _ 5 ?hg (N := 11) ?hd (xs := ([(wrap64 (a0_0 + 1)) % 256] : List Int)) (inner := [.int .u8 ((wrap64 (a0_0 + 1)) % 256)]) (ok := fun _ => True) (okp := fun _ => True) ?hr ?hp (fun _ hk => hk) trivial (Below.refl _ _) (Nat.le_refl _) (by simp) ?_; (case hd => rfl); (case hg => rfl); (case hr => first | (go_simp; done) | (go_simp; rfl)); (case hp => exact (Reps.one (show Kd.M (Kd.int .u8) _ _ _ ((wrap64 (a0_0 + 1)) % 256) [.int .u8 ((wrap64 (a0_0 + 1)) % 256)] from rfl) (Reps.none _ _))); intro vz1 wz2 hoz1 hb hg_ hnew_; clear hg_ hnew_; (first | rw [← Ny102.out] at hoz1 | (simp only [Int.reduceToNat] at hoz1; rw [← Ny102.out] at hoz1)); have HOz1 := aM (Kd.R_lower hoz1 (below_size (hX HB.out))); replace BKz1 := aB BKz1 hb; replace HB := aS HB hb; clear hb hoz1; obtain ⟨hczz4, hczz5, hczz6, hfzz4, hfzz5, hfzz6⟩ := cZ3 BKz1.out; refine Stop.out ?_))
  refine ⟨?_⟩
  by_cases c2 : a0_0 = 1
  · rw [if_pos c2] at H
    obtain ⟨c2b0, c2b1⟩ := eqT c2
    clear c2
    replace H := ifP H; obtain ⟨c3, H⟩ := H
    have LMc3 := aM c3
    clear c3
    obtain ⟨y105, hy105⟩ : ∃ y_ : List Int, y_ = (y102 ++ [(a0_1) % 256]) := ⟨_, rfl⟩
    replace H : (some y105) = some r := yH H hy105
    have Ny105 := aM hy105
    clear hy105
    obtain rfl := sI H
    go_wp2_with (first | ((with_reducible refine gate_builtin (b := .append) (xs := #[.tmp 16, .tmp 20]) rfl ?_); at_builtin; refine Kd.R_append (Kd.int .u8) (w0 := w) w.heap.size rfl (.tmp 16) (.tmp 20) 22 5 (.int .u8 0) 1 rfl Try.underlying22 info5 rfl (by decide) (by omega) vz1 y102 ((a0_1) % 256) [.int .u8 ((a0_1) % 256)] (fun _ => True) (fun _ => False) rfl rfl ?aP (fun _ hk => hk.elim) ?aF ?aO ?aB ?aS ?aL ?_; (case aP => exact rfl); (case aB => exact (hX HB.out)); (case aF => exact (fun _ _ => trivial)); (case aO => exact (rX HOz1.out)); (case aS => exact (below_size (hX HB.out))); (case aL => have := LMc3.out; omega); intro vz2 wz3 ho hb hg hat; rw [← Ny105.out] at ho; have HOz2 := aM (ho); replace BKz1 := aM (blk_grown (g := gbz1) (o := .cells #[.int .i64 a0_0, .int .i64 a0_1, .string a0_2] 37 (0, 0)) (bX BKz1.out) hg (Kd.R_ne HOz1.out BKz1.out (by decide))); replace HB := aM (hb); clear HOz1; clear ho hb hg hat))
    go_ret
    exact ⟨_, rE, (rX HOz2.out), (hX HB.out)⟩
  rw [if_neg c2] at H
  obtain ⟨c2b0, c2b1⟩ := eqF c2
  by_cases c10 : a0_0 = 2
  · rw [if_pos c10] at H
    obtain ⟨c10b0, c10b1⟩ := eqT c10
    clear c10
    have H' := aM H
    clear H
    go_wp2
    go_loopg [3, 5] k (fun kq v3 v5 w' => ∃ (x3_1 : List Int) (x5_1 : Int), v5 = .int .i64 x5_1 ∧ Aside0 (spec_l18Value.l0 kq x3_1 (wrap64 (a0_1 + 4611686018427387904)) x5_1 = some r) ∧ Aside0 (kq ≤ k) ∧ Aside0 (Kd.R (Kd.int .u8) 5 w' w.heap.size (fun _ => True) v3 x3_1) ∧ Aside0 (w'.heap[gbz1]? = some (.cells #[.int .i64 a0_0, .int .i64 a0_1, .string a0_2] 37 (0, 0))) ∧ Aside0 (Below w.heap.size w w'))
    case atStart => exact ⟨(y102), (56), rS, H', ⟨Nat.le_refl _⟩, ⟨(rX HOz1.out)⟩, ⟨(bX BKz1.out)⟩, ⟨(hX HB.out)⟩⟩
    case round =>
      clear H'
      try clear c2
      try clear c2b0
      try clear c2b1
      try clear p2
      try clear p6
      try clear c10
      try clear c10b0
      try clear c10b1
      try clear hczz1 hczz2 hczz3 hfzz1 hfzz2 hfzz3
      try clear hczz4 hczz5 hczz6 hfzz4 hfzz5 hfzz6
      obtain ⟨x3_1, x5_1, rfl, HA, HKy1, HO_y1, BKz1, HB⟩ := hrel
      cases gk with
      | zero => exact absurd HA.out (by simp [spec_l18Value.l0])
      | succ k1 =>
        have H := HA.out
        clear HA
        simp only [spec_l18Value.l0] at H
        by_cases c16 : x5_1 ≥ 0
        case neg =>
          rw [if_neg c16] at H
          have c16b0 := decide_eq_false c16
          clear c16
          obtain rfl := sI H
          go_wp2
          go_ret
          exact ⟨_, rE, (rX HO_y1.out), (hX HB.out)⟩
        rw [if_pos c16] at H
        have c16b0 := decide_eq_true c16
        clear c16
        replace H := ifP H; obtain ⟨c17, H⟩ := H
        have c17b0 := eq_true c17
        have c17b1 := decide_eq_true c17
        clear c17
        obtain ⟨ji18, hji18⟩ : ∃ j_ : Int, (shr .i64 (wrap64 (a0_1 + 4611686018427387904)) x5_1) = j_ := ⟨_, rfl⟩
        replace H : (if x3_1.length < 140737488355328 then (spec_l18Value.l0 k1 (x3_1 ++ [(Go.bits .and .i64 (ji18) 255) % 256]) (wrap64 (a0_1 + 4611686018427387904)) (wrap64 (x5_1 - 8))) else (none)) = some r := by first | (rw [hji18] at H; exact H) | (simp only [hji18] at H ⊢; exact H)
        have hji18_ : ((wrap64 (a0_1 + 4611686018427387904)) / 2 ^ min x5_1.toNat 64) = ji18 := hji18
        have hji18z : x5_1 ≤ 64 → ((wrap64 (a0_1 + 4611686018427387904)) / 2 ^ x5_1.toNat) = ji18 := shr_small hji18
        replace H := ifP H; obtain ⟨c19, H⟩ := H
        have LMc19 := aM c19
        clear c19
        obtain ⟨y108, hy108⟩ : ∃ y_ : List Int, y_ = (x3_1 ++ [(Go.bits .and .i64 (ji18) 255) % 256]) := ⟨_, rfl⟩
        replace H : (spec_l18Value.l0 k1 y108 (wrap64 (a0_1 + 4611686018427387904)) (wrap64 (x5_1 - 8))) = some r := yH H hy108
        have Ny108 := aM hy108
        clear hy108
        have H' := aM H
        clear H
        go_wp2_with (first | ((with_reducible refine gate_builtin (b := .append) (xs := #[.tmp 31, .tmp 37]) rfl ?_); at_builtin; refine Kd.R_append (Kd.int .u8) (w0 := w) w.heap.size rfl (.tmp 31) (.tmp 37) 22 5 (.int .u8 0) 1 rfl Try.underlying22 info5 rfl (by decide) (by omega) u3 x3_1 ((Go.bits .and .i64 (ji18) 255) % 256) [.int .u8 ((Go.bits .and .i64 (ji18) 255) % 256)] (fun _ => True) (fun _ => False) rfl rfl ?aP (fun _ hk => hk.elim) ?aF ?aO ?aB ?aS ?aL ?_; (case aP => exact rfl); (case aB => exact (hX HB.out)); (case aF => exact (fun _ _ => trivial)); (case aO => exact (rX HO_y1.out)); (case aS => exact (below_size (hX HB.out))); (case aL => have := LMc19.out; omega); intro vx1 wx1 ho hb hg hat; rw [← Ny108.out] at ho; have HOx1 := aM (ho); replace BKz1 := aM (blk_grown (g := gbz1) (o := .cells #[.int .i64 a0_0, .int .i64 a0_1, .string a0_2] 37 (0, 0)) (bX BKz1.out) hg (Kd.R_ne HO_y1.out BKz1.out (by decide))); replace HB := aM (hb); clear HO_y1; clear ho hb hg hat))
        go_roundg k1
        case measure => have := HKy1.out; omega
        case rel => exact ⟨(y108), (wrap64 (x5_1 - 8)), rS, H', ⟨by have := HKy1.out; omega⟩, ⟨(rX HOx1.out)⟩, ⟨(bX BKz1.out)⟩, ⟨(hX HB.out)⟩⟩
  rw [if_neg c10] at H
  obtain ⟨c10b0, c10b1⟩ := eqF c10
  by_cases c21 : a0_0 = 3
  case neg =>
    rw [if_neg c21] at H
    obtain ⟨c21b0, c21b1⟩ := eqF c21
    obtain rfl := sI H
    go_wp2
    go_ret
    exact ⟨_, rE, (rX HOz1.out), (hX HB.out)⟩
  rw [if_pos c21] at H
  obtain ⟨c21b0, c21b1⟩ := eqT c21
  clear c21
  have H' := aM H
  clear H
  go_wp2
  go_loopg [3, 6] k (fun kq v3 v6 w' => ∃ (x3_1 : List Int) (x6_1 : Int), v6 = .int .i64 x6_1 ∧ Aside0 (spec_l18Value.l1 kq x3_1 x6_1 a0_0 a0_1 a0_2 = some r) ∧ Aside0 (kq ≤ k) ∧ Aside0 (Kd.R (Kd.int .u8) 5 w' w.heap.size (fun _ => True) v3 x3_1) ∧ Aside0 (w'.heap[gbz1]? = some (.cells #[.int .i64 a0_0, .int .i64 a0_1, .string a0_2] 37 (0, 0))) ∧ Aside0 (Below w.heap.size w w'))
  case atStart => exact ⟨(y102), (0), rS, H', ⟨Nat.le_refl _⟩, ⟨(rX HOz1.out)⟩, ⟨(bX BKz1.out)⟩, ⟨(hX HB.out)⟩⟩
  case round =>
    clear H'
    try clear c2
    try clear c2b0
    try clear c2b1
    try clear p2
    try clear p6
    try clear c10
    try clear c10b0
    try clear c10b1
    try clear c21
    try clear c21b0
    try clear c21b1
    try clear hczz1 hczz2 hczz3 hfzz1 hfzz2 hfzz3
    try clear hczz4 hczz5 hczz6 hfzz4 hfzz5 hfzz6
    obtain ⟨x3_1, x6_1, rfl, HA, HKy1, HO_y1, BKz1, HB⟩ := hrel
    cases gk with
    | zero => exact absurd HA.out (by simp [spec_l18Value.l1])
    | succ k1 =>
      have H := HA.out
      clear HA
      simp only [spec_l18Value.l1] at H
      by_cases c27 : x6_1 < (a0_2.size : Int)
      case neg =>
        rw [if_neg c27] at H
        have c27b0 := decide_eq_false c27
        clear c27
        obtain ⟨y117, hy117⟩ : ∃ y_ : List Int, y_ = (([0, 1] : List Int)) := ⟨_, rfl⟩
        replace H : (if x3_1.length + y117.length < 140737488355328 then (some (x3_1 ++ y117)) else (none)) = some r := yH H hy117
        have Ny117 := aM hy117
        clear hy117
        replace H := ifP H; obtain ⟨c41, H⟩ := H
        have LMc41 := aM c41
        clear c41
        obtain ⟨y120, hy120⟩ : ∃ y_ : List Int, y_ = (x3_1 ++ y117) := ⟨_, rfl⟩
        replace H : (some y120) = some r := yH H hy120
        have Ny120 := aM hy120
        clear hy120
        obtain rfl := sI H
        obtain ⟨hczx1, hczx2, hczx3, hfzx1, hfzx2, hfzx3⟩ := cZ3 BKz1.out
        go_wp2_with (first | ((with_reducible refine gate_dst (N := 64) rfl ?_); refine Kd.R_lit (Kd.int .u8) _ 5 ?hg (N := 64) ?hd (xs := ([0, 1] : List Int)) (inner := [.int .u8 0, .int .u8 1]) (ok := fun _ => True) (okp := fun _ => True) ?hr ?hp (fun _ hk => hk) trivial (Below.refl _ _) (Nat.le_refl _) (by simp) ?_; (case hd => rfl); (case hg => rfl); (case hr => first | (go_simp; done) | (go_simp; rfl)); (case hp => exact (Reps.one (show Kd.M (Kd.int .u8) _ _ _ 0 [.int .u8 0] from rfl) (Reps.one (show Kd.M (Kd.int .u8) _ _ _ 1 [.int .u8 1] from rfl) (Reps.none _ _)))); intro vx1 wx1 hox1 hb hg_ hnew_; clear hg_ hnew_; (first | rw [← Ny117.out] at hox1 | (simp only [Int.reduceToNat] at hox1; rw [← Ny117.out] at hox1)); have HOx1 := aM (Kd.R_lower (Kd.R_new' hox1 (Kd.R_lt (rX HO_y1.out))) (below_size (hX HB.out))); replace HO_y1 := aM (Kd.R_elder' (rX HO_y1.out) (Kd.R_base hox1) hb); replace BKz1 := aB BKz1 hb; replace HB := aS HB hb; clear hb hox1; obtain ⟨Aox1, cox1, eox1⟩ := Kd.R_slice HOx1.out; subst eox1) | ((with_reducible refine gate_builtin (b := .append) (xs := #[.tmp 63, .tmp 64]) rfl ?_); at_builtin; refine Kd.R_append_rows (Kd.int .u8) (w0 := w) w.heap.size rfl (.tmp 63) (.tmp 64) 22 5 (.int .u8 0) 1 rfl Try.underlying22 info5 rfl (by decide) (by omega) u3 x3_1 y117 _ _ _ (fun k_ => some k_ ≠ (.slice Aox1 y117.length cox1 : Value).ownBlock) (fun _ => False) rfl rfl ?aO ?aR (fun _ _ h => h) (fun _ h => h.elim) ?aF ?aB ?aS ?aL ?_; (case aR => repeat (first | exact (Kd.R_reads' HOx1.out).2.2 | (with_reducible refine Kd.C_alloc ?_ _) | (with_reducible refine Kd.C_drewN ?_ _) | (with_reducible refine Kd.C_drew ?_))); (case aB => exact (hX HB.out)); (case aF => exact (fun k_ hk => Kd.fresh' (Kd.R_lt (rX HOx1.out)) k_ hk)); (case aO => exact (rT (h := by exact Kd.R_mono HO_y1.out (fun _ hk => hk.2)))); (case aS => exact (below_size (hX HB.out))); (case aL => have := LMc41.out; omega); intro vx2 wx2 ho hb hg hat; rw [← Ny120.out] at ho; have HOx2 := aM (ho); replace BKz1 := aM (blk_grown (g := gbz1) (o := .cells #[.int .i64 a0_0, .int .i64 a0_1, .string a0_2] 37 (0, 0)) (bX BKz1.out) hg (Kd.R_ne HO_y1.out BKz1.out (by decide))); replace HOx1 := aM (Kd.R_after (ok := (fun _ => True)) (rX HOx1.out) hg hat); replace HB := aM (hb); clear HO_y1; clear ho hb hg hat))
        go_ret
        exact ⟨_, rE, (rT (h := by exact Kd.R_mono HOx2.out (fun _ hk => trivial))), (hX HB.out)⟩
      rw [if_pos c27] at H
      have c27b0 := decide_eq_true c27
      clear c27
      replace H := ifP H; obtain ⟨c28, H⟩ := H
      have c28b0 := decide_eq_true c28
      clear c28
      replace H := ifP H; obtain ⟨c30, H⟩ := H
      have LMc30 := aM c30
      clear c30
      obtain ⟨y111, hy111⟩ : ∃ y_ : List Int, y_ = (x3_1 ++ [bt a0_2 x6_1]) := ⟨_, rfl⟩
      replace H : (if (bt a0_2 x6_1) = 0 then (if y111.length < 140737488355328 then (spec_l18Value.l1 k1 (y111 ++ [255]) (wrap64 (x6_1 + 1)) a0_0 a0_1 a0_2) else (none)) else (spec_l18Value.l1 k1 y111 (wrap64 (x6_1 + 1)) a0_0 a0_1 a0_2)) = some r := yH H hy111
      have Ny111 := aM hy111
      clear hy111
      obtain ⟨hczx1, hczx2, hczx3, hfzx1, hfzx2, hfzx3⟩ := cZ3 BKz1.out
      have px1 : 0 ≤ (x6_1 : Int) := odA
      have qx1 : x6_1 < (a0_2.size : Int) := odA
      have hxx1 := bt_at a0_2 x6_1
      replace px1 := eq_true px1
      replace qx1 := eq_true qx1
      go_wp2_with (first | ((with_reducible refine gate_builtin (b := .append) (xs := #[.tmp 48, .tmp 53]) rfl ?_); at_builtin; refine Kd.R_append (Kd.int .u8) (w0 := w) w.heap.size rfl (.tmp 48) (.tmp 53) 22 5 (.int .u8 0) 1 rfl Try.underlying22 info5 rfl (by decide) (by omega) u3 x3_1 (bt a0_2 x6_1) [.int .u8 (bt a0_2 x6_1)] (fun _ => True) (fun _ => False) rfl rfl ?aP (fun _ hk => hk.elim) ?aF ?aO ?aB ?aS ?aL ?_; (case aP => exact rfl); (case aB => exact (hX HB.out)); (case aF => exact (fun _ _ => trivial)); (case aO => exact (rX HO_y1.out)); (case aS => exact (below_size (hX HB.out))); (case aL => have := LMc30.out; omega); intro vx1 wx1 ho hb hg hat; rw [← Ny111.out] at ho; have HOx1 := aM (ho); replace BKz1 := aM (blk_grown (g := gbz1) (o := .cells #[.int .i64 a0_0, .int .i64 a0_1, .string a0_2] 37 (0, 0)) (bX BKz1.out) hg (Kd.R_ne HO_y1.out BKz1.out (by decide))); replace HB := aM (hb); clear HO_y1; clear ho hb hg hat; obtain ⟨hczx4, hczx5, hczx6, hfzx4, hfzx5, hfzx6⟩ := cZ3 BKz1.out; have px2 : 0 ≤ (x6_1 : Int) := odA; have qx2 : x6_1 < (a0_2.size : Int) := odA; have hxx2 := bt_at a0_2 x6_1; replace px2 := eq_true px2; replace qx2 := eq_true qx2; refine Stop.out ?_))
      refine ⟨?_⟩
      by_cases c32 : (bt a0_2 x6_1) = 0
      case neg =>
        rw [if_neg c32] at H
        obtain ⟨c32b0, c32b1⟩ := eqF c32
        have H' := aM H
        clear H
        go_wp2
        go_roundg k1
        case measure => have := HKy1.out; omega
        case rel => exact ⟨(y111), (wrap64 (x6_1 + 1)), rS, H', ⟨by have := HKy1.out; omega⟩, ⟨(rX HOx1.out)⟩, ⟨(bX BKz1.out)⟩, ⟨(hX HB.out)⟩⟩
      rw [if_pos c32] at H
      obtain ⟨c32b0, c32b1⟩ := eqT c32
      clear c32
      replace H := ifP H; obtain ⟨c33, H⟩ := H
      have LMc33 := aM c33
      clear c33
      obtain ⟨y114, hy114⟩ : ∃ y_ : List Int, y_ = (y111 ++ [255]) := ⟨_, rfl⟩
      replace H : (spec_l18Value.l1 k1 y114 (wrap64 (x6_1 + 1)) a0_0 a0_1 a0_2) = some r := yH H hy114
      have Ny114 := aM hy114
      clear hy114
      have H' := aM H
      clear H
      go_wp2_with (first | ((with_reducible refine gate_builtin (b := .append) (xs := #[.tmp 60, .tmp 61]) rfl ?_); at_builtin; refine Kd.R_append (Kd.int .u8) (w0 := w) w.heap.size rfl (.tmp 60) (.tmp 61) 22 5 (.int .u8 0) 1 rfl Try.underlying22 info5 rfl (by decide) (by omega) vx1 y111 255 [.int .u8 255] (fun _ => True) (fun _ => False) rfl rfl ?aP (fun _ hk => hk.elim) ?aF ?aO ?aB ?aS ?aL ?_; (case aP => exact rfl); (case aB => exact (hX HB.out)); (case aF => exact (fun _ _ => trivial)); (case aO => exact (rX HOx1.out)); (case aS => exact (below_size (hX HB.out))); (case aL => have := LMc33.out; omega); intro vx2 wx2 ho hb hg hat; rw [← Ny114.out] at ho; have HOx2 := aM (ho); replace BKz1 := aM (blk_grown (g := gbz1) (o := .cells #[.int .i64 a0_0, .int .i64 a0_1, .string a0_2] 37 (0, 0)) (bX BKz1.out) hg (Kd.R_ne HOx1.out BKz1.out (by decide))); replace HB := aM (hb); clear HOx1; clear ho hb hg hat))
      go_roundg k1
      case measure => have := HKy1.out; omega
      case rel => exact ⟨(y114), (wrap64 (x6_1 + 1)), rS, H', ⟨by have := HKy1.out; omega⟩, ⟨(rX HOx2.out)⟩, ⟨(bX BKz1.out)⟩, ⟨(hX HB.out)⟩⟩
def spec_TupleBytes.l0 : Nat → List (S37) → List Int → Int → Option (List Int)
  | 0, _, _, _ => none
  | k + 1, x0, x3, x4 => if x4 < (x0.length : Int) then ((spec_TupleOk.f k x0).bind fun t104 => (if t104 = true then (if 0 ≤ x4 then ((spec_l18Value.f k ((rd_T37 x0 x4).f0) ((rd_T37 x0 x4).f1) ((rd_T37 x0 x4).f2)).bind fun t106 => (if x3.length + t106.length < 140737488355328 then (spec_TupleBytes.l0 k x0 (x3 ++ t106) (wrap64 (x4 + 1))) else (none))) else (none)) else (some x3))) else (some x3)
def spec_TupleBytes.f (k : Nat) (l0 : List (S37)) : Option (List Int) := spec_TupleBytes.l0 k l0 (([] : List Int)) 0
set_option maxHeartbeats 8000000 in
set_option maxRecDepth 100000 in
theorem spec_TupleBytes.calls (k : Nat) (A0 : Option Addr) (c0 : Nat) (l0 : List (S37)) (r : List Int) (w : World) (hr0 : Kd.C k37 w A0 l0.length l0) (hc0 : l0.length ≤ c0) (h : spec_TupleBytes.f k l0 = some r) :
    Calls Try.prog 44 #[.slice A0 l0.length c0] w fun e w' => ∃ v0_ : Value, e = .returned (v0_) ∧ Kd.R (Kd.int .u8) 5 w' w.heap.size (fun _ => True) v0_ r ∧ Below w.heap.size w w' := by
  have hu37 := Try.underlying37
  have HR0 := aM hr0
  have HC0 := aM hc0
  clear hr0 hc0
  have HB := aM (Below.refl w.heap.size w)
  have H := h
  unfold spec_TupleBytes.f at H
  clear h
  obtain ⟨y101, hy101⟩ : ∃ y_ : List Int, y_ = (([] : List Int)) := ⟨_, rfl⟩
  replace H : (spec_TupleBytes.l0 k l0 y101 0) = some r := yH H hy101
  have Ny101 := aM hy101
  clear hy101
  have H' := aM H
  clear H
  go_enter Try.func44, Try.ntmps44
  go_wp2_with (first | ((with_reducible refine gate_dst (N := 5) rfl ?_); refine Kd.R_lit (Kd.int .u8) _ 5 ?hg (N := 5) ?hd (xs := ([] : List Int)) (inner := []) (ok := fun _ => True) (okp := fun _ => True) ?hr ?hp (fun _ hk => hk) trivial (Below.refl _ _) (Nat.le_refl _) (by simp) ?_; (case hd => rfl); (case hg => rfl); (case hr => first | (go_simp; done) | (go_simp; rfl)); (case hp => exact (Reps.none _ _)); intro vz1 wz1 hoz1 hb hg_ hnew_; clear hg_ hnew_; (first | rw [← Ny101.out] at hoz1 | (simp only [Int.reduceToNat] at hoz1; rw [← Ny101.out] at hoz1)); have HOz1 := aM (Kd.R_lower hoz1 (below_size (hX HB.out))); replace HB := aS HB hb; clear hb hoz1))
  go_loopg [3, 4] k (fun kq v3 v4 w' => ∃ (x3_1 : List Int) (x4_1 : Int), v4 = .int .i64 x4_1 ∧ Aside0 (spec_TupleBytes.l0 kq l0 x3_1 x4_1 = some r) ∧ Aside0 (kq ≤ k) ∧ Aside0 (Kd.R (Kd.int .u8) 5 w' w.heap.size (fun _ => True) v3 x3_1) ∧ Aside0 (Below w.heap.size w w'))
  case atStart => exact ⟨(y101), (0), rS, H', ⟨Nat.le_refl _⟩, ⟨(rX HOz1.out)⟩, ⟨(hX HB.out)⟩⟩
  case round =>
    clear H'
    try clear p2
    obtain ⟨x3_1, x4_1, rfl, HA, HKy1, HO_y1, HB⟩ := hrel
    cases gk with
    | zero => exact absurd HA.out (by simp [spec_TupleBytes.l0])
    | succ k1 =>
      have H := HA.out
      clear HA
      simp only [spec_TupleBytes.l0] at H
      by_cases c4 : x4_1 < (l0.length : Int)
      case neg =>
        rw [if_neg c4] at H
        have c4b0 := decide_eq_false c4
        clear c4
        obtain rfl := sI H
        go_wp2
        go_ret
        exact ⟨_, rE, (rX HO_y1.out), (hX HB.out)⟩
      rw [if_pos c4] at H
      have c4b0 := decide_eq_true c4
      clear c4
      replace H := bE H; obtain ⟨t104, A5, H⟩ := H
      by_cases c6 : t104 = true
      case neg =>
        replace c6 := Bool.eq_false_iff.mpr c6
        subst c6
        rw [if_neg nft] at H
        obtain rfl := sI H
        go_wp2_with (first | (go_at_call 21; (with_reducible refine (spec_TupleOk.calls _ _ _ _ _ _ (cC HR0.out HB.out) HC0.out A5.out).mono ?_); rintro e wx1 ⟨rfl, hb⟩; replace HO_y1 := aQ HO_y1 hb; replace HB := aS HB hb; clear hb))
        go_ret
        exact ⟨_, rE, (rX HO_y1.out), (hX HB.out)⟩
      subst c6
      rw [if_pos rfl] at H
      replace H := ifP H; obtain ⟨c7, H⟩ := H
      have c7b0 := decide_eq_true c7
      clear c7
      replace H := bE H; obtain ⟨t106, A8, H⟩ := H
      replace H := ifP H; obtain ⟨c9, H⟩ := H
      have LMc9 := aM c9
      clear c9
      obtain ⟨y109, hy109⟩ : ∃ y_ : List Int, y_ = (x3_1 ++ t106) := ⟨_, rfl⟩
      replace H : (spec_TupleBytes.l0 k1 l0 y109 (wrap64 (x4_1 + 1))) = some r := yH H hy109
      have Ny109 := aM hy109
      clear hy109
      have H' := aM H
      clear H
      go_wp2_with (first | (go_at_call 21; (with_reducible refine (spec_TupleOk.calls _ _ _ _ _ _ (cC HR0.out HB.out) HC0.out A5.out).mono ?_); rintro e wx1 ⟨rfl, hb⟩; replace HO_y1 := aQ HO_y1 hb; replace HB := aS HB hb; clear hb; have px1 : 0 ≤ (x4_1 : Int) := odA; have qx1 : x4_1 < (l0.length : Int) := odA; obtain ⟨adx1, ex1, hxx1, hxx2, hxx3⟩ := at_T37 HR0.out x4_1 px1 qx1; cases ex1; replace hxx1 := bc HB.out hxx1; replace hxx2 := bc HB.out hxx2; replace hxx3 := bc HB.out hxx3; replace px1 := eq_true px1; replace qx1 := eq_true qx1) | ((with_reducible refine gate_callee (f := 77) rfl ?_); refine goesM 77 21 Try.func77 #[.agg #[.int .i64 ((rd_T37 l0 x4_1).f0), .int .i64 ((rd_T37 l0 x4_1).f1), .string ((rd_T37 l0 x4_1).f2)]] ?_; refine (spec_l18Value.calls _ _ _ _ _ _ A8.out).mono ?_; rintro e wx2 ⟨vx1, rfl, hox1, hb⟩; refine ⟨_, rfl, ?_⟩; have HOx1 := aM (Kd.R_lower (Kd.R_new' hox1 (Kd.R_lt (rX HO_y1.out))) (below_size (hX HB.out))); replace HO_y1 := aM (Kd.R_elder' (rX HO_y1.out) (Kd.R_base hox1) hb); replace HB := aS HB hb; clear hb hox1; obtain ⟨Aox1, cox1, eox1⟩ := Kd.R_slice HOx1.out; subst eox1) | ((with_reducible refine gate_builtin (b := .append) (xs := #[.tmp 16, .tmp 21]) rfl ?_); at_builtin; refine Kd.R_append_rows (Kd.int .u8) (w0 := w) w.heap.size rfl (.tmp 16) (.tmp 21) 22 5 (.int .u8 0) 1 rfl Try.underlying22 info5 rfl (by decide) (by omega) u3 x3_1 t106 _ _ _ (fun k_ => some k_ ≠ (.slice Aox1 t106.length cox1 : Value).ownBlock) (fun _ => False) rfl rfl ?aO ?aR (fun _ _ h => h) (fun _ h => h.elim) ?aF ?aB ?aS ?aL ?_; (case aR => repeat (first | exact (Kd.R_reads' HOx1.out).2.2 | (with_reducible refine Kd.C_alloc ?_ _) | (with_reducible refine Kd.C_drewN ?_ _) | (with_reducible refine Kd.C_drew ?_))); (case aB => exact (hX HB.out)); (case aF => exact (fun k_ hk => Kd.fresh' (Kd.R_lt (rX HOx1.out)) k_ hk)); (case aO => exact (rT (h := by exact Kd.R_mono HO_y1.out (fun _ hk => hk.2)))); (case aS => exact (below_size (hX HB.out))); (case aL => have := LMc9.out; omega); intro vx2 wx3 ho hb hg hat; rw [← Ny109.out] at ho; have HOx2 := aM (ho); replace HOx1 := aM (Kd.R_after (ok := (fun _ => True)) (rX HOx1.out) hg hat); replace HB := aM (hb); clear HO_y1; clear ho hb hg hat))
      go_roundg k1
      case measure => have := HKy1.out; omega
      case rel => exact ⟨(y109), (wrap64 (x4_1 + 1)), rS, H', ⟨by have := HKy1.out; omega⟩, ⟨(rT (h := by exact Kd.R_mono HOx2.out (fun _ hk => trivial)))⟩, ⟨(hX HB.out)⟩⟩
def spec_DrawTupleOf.f (k : Nat) (l0 : List Int) : Option (List Int) := (spec_l1New.f k l0).bind fun bt101 => ((spec_l18DrawRight.f k bt101.1 bt101.2.1 bt101.2.2).bind fun bt105 => ((spec_TupleBytes.f k bt105.1).bind fun t110 => ((spec_l1Below.f bt101.1 bt105.2.1 bt105.2.2 (wrap64 ((t110.length : Int) + 1))).bind fun bt113 => ((spec_l1Below.f bt101.1 bt113.2.1 bt113.2.2 5).bind fun bt116 => (if bt116.1 = 0 then (if 0 ≤ bt113.1 then (if bt113.1 ≤ (t110.length : Int) then (some (t110.take (bt113.1 : Int).toNat)) else (none)) else (none)) else (if bt116.1 = 1 then ((some (([] : List Int) : List Int)).bind fun y122 => (if 0 ≤ bt113.1 then (if bt113.1 ≤ (t110.length : Int) then ((some (t110.take (bt113.1 : Int).toNat : List Int)).bind fun y125 => (if y122.length + y125.length < 140737488355328 then ((some (y122 ++ y125 : List Int)).bind fun y129 => ((spec_l1PickInt.f bt101.1 bt116.2.1 bt116.2.2 (([0, 1, 2, 5, 255] : List Int))).bind fun bt135 => ((some (([(bt135.1) % 256] : List Int) : List Int)).bind fun y138 => ((some (t110.drop (bt113.1 : Int).toNat : List Int)).bind fun y141 => (if y138.length + y141.length < 140737488355328 then ((some (y138 ++ y141 : List Int)).bind fun y145 => (if y129.length + y145.length < 140737488355328 then (some (y129 ++ y145)) else (none))) else (none)))))) else (none))) else (none)) else (none))) else (some t110)))))))
def spec_DrawTupleOf.T8 : Bool × List (List Nat × List Nat) := (true, [([], []), ([], []), ([], []), ([1, 2], [1, 2]), ([0, 3], [0, 3]), ([], []), ([], []), ([5, 6, 4], [5, 6]), ([7], [7]), ([8], [8]), ([], []), ([], []), ([10, 11], [10, 11]), ([9, 12, 7], [9, 12]), ([4, 13, 13], [4, 13]), ([14, 14, 0, 1, 2, 3, 4, 5, 6, 7, 8, 9, 10, 11, 12, 13, 14], [14])])
def spec_DrawTupleOf.B8 : List Nat := [0, 0, 0, 6, 15, 0, 0, 127, 255, 511, 0, 0, 3072, 8191, 16383, 32767]
theorem spec_DrawTupleOf.tab8 : rtab .any (opsOf Try.f39 8) = spec_DrawTupleOf.T8 := by kernel_rfl
theorem spec_DrawTupleOf.bits8 : waitsOk spec_DrawTupleOf.T8.2 spec_DrawTupleOf.B8 = true := by kernel_rfl
set_option maxHeartbeats 8000000 in
set_option maxRecDepth 100000 in
theorem spec_DrawTupleOf.calls (k : Nat) (A0 : Option Addr) (c0 : Nat) (l0 : List Int) (r : List Int) (w : World) (hr0 : Kd.C (Kd.int .u8) w A0 l0.length l0) (hc0 : l0.length ≤ c0) (h : spec_DrawTupleOf.f k l0 = some r) :
    Calls Try.prog 39 #[.slice A0 l0.length c0] w fun e w' => ∃ v0_ : Value, e = .returned (v0_) ∧ Kd.R (Kd.int .u8) 5 w' w.heap.size (fun _ => True) v0_ r ∧ Below w.heap.size w w' := by
  have HR0 := Aside0.mk hr0
  have HC0 := Aside0.mk hc0
  clear hr0 hc0
  have HB := Aside0.mk (Below.refl w.heap.size w)
  have H := h
  unfold spec_DrawTupleOf.f at H
  clear h
  replace H := bE H; obtain ⟨⟨t101, t102, t103⟩, A2, H⟩ := H
  try dsimp only at H
  replace H := bE H; obtain ⟨⟨t105, t108, t109⟩, A3, H⟩ := H
  try dsimp only at H
  replace H := bE H; obtain ⟨t110, A4, H⟩ := H
  replace H := bE H; obtain ⟨⟨t113, t114, t115⟩, A5, H⟩ := H
  try dsimp only at H
  replace H := bE H; obtain ⟨⟨t116, t117, t118⟩, A6, H⟩ := H
  try dsimp only at H
  go_enter Try.func39, Try.ntmps39
  go_wp2_with (first | ((with_reducible refine gate_callee (f := 47) rfl ?_); refine goesM 47 7 Try.func47 #[.slice A0 l0.length c0] ?_; refine (spec_l1New.calls k _ _ l0 t101 t102 t103 w _ (by repeat (first | (with_reducible first | exact HB.out | apply below_alloc | apply pw_below_drewN | apply below_drew1) | exact HB.out)) HR0.out HC0.out A2.out).mono ?_; rintro e wz1 ⟨gz1, rfl, hi, hb, hbz1⟩; refine ⟨_, rfl, ?_⟩; have HIz1 := Aside0.mk (hi); replace HB := Aside0.mk (hb); clear hb hbz1 hi) | ((with_reducible refine gate_callee (f := 55) rfl ?_); refine goesM 55 9 Try.func55 #[.pointer (some ⟨gz1, 0, none⟩)] ?_; refine (spec_l18DrawRight.calls k gz1 t101 t102 t103 t105 t108 t109 w _ (by repeat (first | (with_reducible first | exact HIz1.out | apply IsS96.alloc | apply IsS96.drewN | apply IsS96.drew | apply IsS96.set_1 | apply IsS96.set_2) | exact HIz1.out)) (by repeat (first | (with_reducible first | exact HB.out | apply below_alloc | apply pw_below_drewN | apply below_drew1 | refine below_set ?_ (IsS96.ge HIz1.out)) | exact HB.out)) A3.out).mono ?_; rintro e wz2 ⟨vz1, rfl, hoz1, hi, hb, hk⟩; refine ⟨_, rfl, ?_⟩; have HOz1 := Aside0.mk (Kd.R_lower hoz1 (below_size (hY HB.out (IsS96.ge HIz1.out)))); replace HB := Aside0.mk (hb); replace HIz1 := Aside0.mk (hi); clear hb hk hi hoz1; obtain ⟨Aoz1, coz1, eoz1⟩ := Kd.R_slice HOz1.out; subst eoz1) | ((with_reducible refine gate_callee (f := 44) rfl ?_); refine goesM 44 10 Try.func44 #[.slice Aoz1 t105.length coz1] ?_; refine (spec_TupleBytes.calls k _ _ t105 t110 _ (cX (Kd.R_reads' HOz1.out).2.2) ((Kd.R_reads' HOz1.out).2.1) A4.out).mono ?_; rintro e wz3 ⟨vz2, rfl, hoz1, hb⟩; refine ⟨_, rfl, ?_⟩; have HOz2 := Aside0.mk (Kd.R_lower hoz1 (below_size (hY HB.out (IsS96.ge HIz1.out)))); replace HOz1 := Aside0.mk (Kd.R_below (rX HOz1.out) hb); replace HB := Aside0.mk (below_step (hY HB.out (IsS96.ge HIz1.out)) hb); replace HIz1 := Aside0.mk (IsS96.below (i96 HIz1.out) hb); clear hb hoz1; obtain ⟨Aoz2, coz2, eoz2⟩ := Kd.R_slice HOz2.out; subst eoz2) | ((with_reducible refine gate_callee (f := 49) rfl ?_); refine goesM 49 15 Try.func49 #[.pointer (some ⟨gz1, 0, none⟩), .int .i64 (wrap64 ((t110.length : Int) + 1))] ?_; refine (spec_l1Below.calls gz1 t101 t108 t109 (wrap64 ((t110.length : Int) + 1)) t113 t114 t115 w _ (by repeat (first | (with_reducible first | exact HIz1.out | apply IsS96.alloc | apply IsS96.drewN | apply IsS96.drew | apply IsS96.set_1 | apply IsS96.set_2) | exact HIz1.out)) (by repeat (first | (with_reducible first | exact HB.out | apply below_alloc | apply pw_below_drewN | apply below_drew1 | refine below_set ?_ (IsS96.ge HIz1.out)) | exact HB.out)) A5.out).mono ?_; rintro e wz4 ⟨rfl, hi, hb, hk⟩; refine ⟨_, rfl, ?_⟩; replace HOz1 := Aside0.mk (Kd.R_mono (Kd.R_keep (IsS96.apart (show IsS96 w _ gz1 t101 t108 t109 from (i96 HIz1.out)) (rX HOz1.out) (by decide)) hk (fun _ h => h.2)) (fun _ h => h.1)); replace HOz2 := Aside0.mk (Kd.R_mono (Kd.R_keep (IsS96.apart (show IsS96 w _ gz1 t101 t108 t109 from (i96 HIz1.out)) (rX HOz2.out) (by decide)) hk (fun _ h => h.2)) (fun _ h => h.1)); replace HB := Aside0.mk (hb); replace HIz1 := Aside0.mk (hi); clear hb hk hi; refine Stop.out ?_))
  refine ⟨?_⟩
  by_cases c7 : t116 = 0
  · rw [if_pos c7] at H
    obtain ⟨c7b0, c7b1⟩ := eqT c7
    clear c7
    replace H := ifP H; obtain ⟨c8, H⟩ := H
    have c8b0 := eq_true c8
    have c8b1 := decide_eq_true c8
    clear c8
    replace H := ifP H; obtain ⟨c9, H⟩ := H
    have c9b0 := eq_true c9
    have c9b1 := decide_eq_true c9
    clear c9
    obtain ⟨y119, hy119⟩ : ∃ y_ : List Int, y_ = (t110.take (t113 : Int).toNat) := ⟨_, rfl⟩
    replace H : (some y119) = some r := yH H hy119
    have Ny119 := Aside0.mk hy119
    clear hy119
    obtain rfl := Option.some.inj H
    go_wp2_with (first | ((with_reducible refine gate_callee (f := 49) rfl ?_); refine goesM 49 17 Try.func49 #[.pointer (some ⟨gz1, 0, none⟩), .int .i64 5] ?_; refine (spec_l1Below.calls gz1 t101 t114 t115 5 t116 t117 t118 w _ (by repeat (first | (with_reducible first | exact HIz1.out | apply IsS96.alloc | apply IsS96.drewN | apply IsS96.drew | apply IsS96.set_1 | apply IsS96.set_2) | exact HIz1.out)) (by repeat (first | (with_reducible first | exact HB.out | apply below_alloc | apply pw_below_drewN | apply below_drew1 | refine below_set ?_ (IsS96.ge HIz1.out)) | exact HB.out)) A6.out).mono ?_; rintro e wz5 ⟨rfl, hi, hb, hk⟩; refine ⟨_, rfl, ?_⟩; replace HOz1 := Aside0.mk (Kd.R_mono (Kd.R_keep (IsS96.apart (show IsS96 w _ gz1 t101 t114 t115 from (i96 HIz1.out)) (rX HOz1.out) (by decide)) hk (fun _ h => h.2)) (fun _ h => h.1)); replace HOz2 := Aside0.mk (Kd.R_mono (Kd.R_keep (IsS96.apart (show IsS96 w _ gz1 t101 t114 t115 from (i96 HIz1.out)) (rX HOz2.out) (by decide)) hk (fun _ h => h.2)) (fun _ h => h.1)); replace HB := Aside0.mk (hb); replace HIz1 := Aside0.mk (hi); clear hb hk hi; have qz1 : (t113 : Int) ≤ ((t110.length : Int) : Int) := of_decide_eq_true (by first | (with_reducible assumption) | assumption); obtain ⟨iz1, hiz1, _, hszz1, _⟩ := info_parts info5; have hcutz1 := cut_to (P := Try.prog) 22 5 .i64 Try.underlying22 hiz1 Aoz2 t110.length coz2 t113 (of_decide_eq_true (by first | (with_reducible assumption) | assumption)) qz1 (Kd.R_reads' HOz2.out).2.1; have hrz1 := Kd.R_take (m := (t113 : Int).toNat) HOz2.out (by omega); have hyz1 : y119.length = (t113 : Int).toNat := (by rw [Ny119.out, List.length_take]; omega); rw [← Ny119.out] at hrz1; rw [← hyz1] at hrz1 hcutz1; clear hyz1 hiz1 hszz1 HOz2; have HOz3 := Aside0.mk hrz1; clear hrz1; replace qz1 := eq_true qz1))
    go_ret
    exact ⟨_, rE, (rX HOz3.out), (hY HB.out (IsS96.ge HIz1.out))⟩
  · rw [if_neg c7] at H
    obtain ⟨c7b0, c7b1⟩ := eqF c7
    go_wp2_with (first | ((with_reducible refine gate_callee (f := 49) rfl ?_); refine goesM 49 17 Try.func49 #[.pointer (some ⟨gz1, 0, none⟩), .int .i64 5] ?_; refine (spec_l1Below.calls gz1 t101 t114 t115 5 t116 t117 t118 w _ (by repeat (first | (with_reducible first | exact HIz1.out | apply IsS96.alloc | apply IsS96.drewN | apply IsS96.drew | apply IsS96.set_1 | apply IsS96.set_2) | exact HIz1.out)) (by repeat (first | (with_reducible first | exact HB.out | apply below_alloc | apply pw_below_drewN | apply below_drew1 | refine below_set ?_ (IsS96.ge HIz1.out)) | exact HB.out)) A6.out).mono ?_; rintro e wz5 ⟨rfl, hi, hb, hk⟩; refine ⟨_, rfl, ?_⟩; replace HOz1 := Aside0.mk (Kd.R_mono (Kd.R_keep (IsS96.apart (show IsS96 w _ gz1 t101 t114 t115 from (i96 HIz1.out)) (rX HOz1.out) (by decide)) hk (fun _ h => h.2)) (fun _ h => h.1)); replace HOz2 := Aside0.mk (Kd.R_mono (Kd.R_keep (IsS96.apart (show IsS96 w _ gz1 t101 t114 t115 from (i96 HIz1.out)) (rX HOz2.out) (by decide)) hk (fun _ h => h.2)) (fun _ h => h.1)); replace HB := Aside0.mk (hb); replace HIz1 := Aside0.mk (hi); clear hb hk hi; refine Stop.out ?_))
    refine ⟨?_⟩
    by_cases c18 : t116 = 1
    · rw [if_pos c18] at H
      obtain ⟨c18b0, c18b1⟩ := eqT c18
      clear c18
      obtain ⟨y122, hy122⟩ : ∃ y_ : List Int, y_ = (([] : List Int)) := ⟨_, rfl⟩
      replace H : (if 0 ≤ t113 then (if t113 ≤ (t110.length : Int) then ((some (t110.take (t113 : Int).toNat : List Int)).bind fun y125 => (if y122.length + y125.length < 140737488355328 then ((some (y122 ++ y125 : List Int)).bind fun y129 => ((spec_l1PickInt.f t101 t117 t118 (([0, 1, 2, 5, 255] : List Int))).bind fun bt135 => ((some (([(bt135.1) % 256] : List Int) : List Int)).bind fun y138 => ((some (t110.drop (t113 : Int).toNat : List Int)).bind fun y141 => (if y138.length + y141.length < 140737488355328 then ((some (y138 ++ y141 : List Int)).bind fun y145 => (if y129.length + y145.length < 140737488355328 then (some (y129 ++ y145)) else (none))) else (none)))))) else (none))) else (none)) else (none)) = some r := yH H hy122
      have Ny122 := Aside0.mk hy122
      clear hy122
      replace H := ifP H; obtain ⟨c19, H⟩ := H
      have c19b0 := eq_true c19
      have c19b1 := decide_eq_true c19
      clear c19
      replace H := ifP H; obtain ⟨c20, H⟩ := H
      have c20b0 := eq_true c20
      have c20b1 := decide_eq_true c20
      clear c20
      replace H := sE H; obtain ⟨y125, Ny125, H⟩ := H
      replace H := ifP H; obtain ⟨c21, H⟩ := H
      have LMc21 := Aside0.mk c21
      clear c21
      replace H := sE H; obtain ⟨y129, Ny129, H⟩ := H
      obtain ⟨y132, hy132⟩ : ∃ y_ : List Int, y_ = (([0, 1, 2, 5, 255] : List Int)) := ⟨_, rfl⟩
      replace H : ((spec_l1PickInt.f t101 t117 t118 y132).bind fun bt135 => ((some (([(bt135.1) % 256] : List Int) : List Int)).bind fun y138 => ((some (t110.drop (t113 : Int).toNat : List Int)).bind fun y141 => (if y138.length + y141.length < 140737488355328 then ((some (y138 ++ y141 : List Int)).bind fun y145 => (if y129.length + y145.length < 140737488355328 then (some (y129 ++ y145)) else (none))) else (none))))) = some r := yH H hy132
      have Ny132 := Aside0.mk hy132
      clear hy132
      replace H := bE H; obtain ⟨⟨t135, t136, t137⟩, A22, H⟩ := H
      try dsimp only at H
      replace H := sE H; obtain ⟨y138, Ny138, H⟩ := H
      have c23b0 := eq_true (of_decide_eq_true (by first | (with_reducible assumption) | assumption) : 0 ≤ t113)
      have c24b0 := eq_true (of_decide_eq_true (by first | (with_reducible assumption) | assumption) : t113 ≤ (t110.length : Int))
      replace H := sE H; obtain ⟨y141, Ny141, H⟩ := H
      replace H := ifP H; obtain ⟨c25, H⟩ := H
      have LMc25 := Aside0.mk c25
      clear c25
      replace H := sE H; obtain ⟨y145, Ny145, H⟩ := H
      replace H := ifP H; obtain ⟨c26, H⟩ := H
      have LMc26 := Aside0.mk c26
      clear c26
      obtain ⟨y148, hy148⟩ : ∃ y_ : List Int, y_ = (y129 ++ y145) := ⟨_, rfl⟩
      replace H : (some y148) = some r := yH H hy148
      have Ny148 := Aside0.mk hy148
      clear hy148
      obtain rfl := Option.some.inj H
      try go_wp2
      replace HOz1 := Aside0.mk (Kd.R_drew HOz1.out)
      replace HOz2 := Aside0.mk (Kd.R_drew HOz2.out)
      replace HIz1 := Aside0.mk (IsS96.drew HIz1.out)
      replace HB := Aside0.mk (below_drew1 HB.out)
      have qz1 : (t113 : Int) ≤ ((t110.length : Int) : Int) := of_decide_eq_true (by first | (with_reducible assumption) | assumption)
      obtain ⟨iz1, hiz1, _, hszz1, _⟩ := info_parts info5
      have hroomz1 : t110.length ≤ coz2 := (Kd.R_reads' HOz2.out).2.1
      have hCz1 : Kd.C (Kd.int .u8) _ Aoz2 t110.length t110 := (Kd.R_reads' HOz2.out).2.2
      have hcutz1 := cut_to (P := Try.prog) 22 5 .i64 Try.underlying22 hiz1 Aoz2 t110.length coz2 t113 (of_decide_eq_true (by first | (with_reducible assumption) | assumption)) qz1 hroomz1
      have hrz1 := Kd.C_take (m := (t113 : Int).toNat) hCz1 (by omega)
      have hyz1 : y125.length = (t113 : Int).toNat := (by rw [Ny125.out, List.length_take]; omega)
      rw [← Ny125.out] at hrz1
      rw [← hyz1] at hcutz1
      have HRz1 := Aside0.mk hrz1
      have HCz1 := Aside0.mk (show y125.length ≤ coz2 from by omega)
      clear hrz1 hCz1 hroomz1 hiz1 hszz1
      have KYz1 := Aside0.mk hyz1
      clear hyz1
      have KLz1 := Aside0.mk (show (t113 : Int).toNat ≤ t110.length from by omega)
      replace qz1 := eq_true qz1
      have qz2 : (t113 : Int) ≤ ((t110.length : Int) : Int) := of_decide_eq_true (by first | (with_reducible assumption) | assumption)
      obtain ⟨iz2, hiz2, _, hszz2, _⟩ := info_parts info5
      have hroomz2 : t110.length ≤ coz2 := (Kd.R_reads' HOz2.out).2.1
      have hCz2 : Kd.C (Kd.int .u8) _ Aoz2 t110.length t110 := (Kd.R_reads' HOz2.out).2.2
      have qz3 : (0 : Int) ≤ (t113 : Int) := of_decide_eq_true (by first | (with_reducible assumption) | assumption)
      have hcutz2 := cut_from (P := Try.prog) 22 5 .i64 Try.underlying22 hiz2 1 hszz2 Aoz2 t110.length coz2 t113 qz3 qz2
      have hrz2 := Kd.C_drop (m := (t113 : Int).toNat) (c := coz2) hCz2 (by omega) hroomz2
      obtain ⟨Az1, hAz1⟩ : ∃ A1, A1 = (if coz2 = (t113 : Int).toNat then Aoz2 else (Aoz2 : Option Addr).map (·.add ((t113 : Int).toNat * 1))) := ⟨_, rfl⟩
      obtain ⟨cz1, hcz1⟩ : ∃ c1, c1 = coz2 - (t113 : Int).toNat := ⟨_, rfl⟩
      have hyz2 : y141.length = t110.length - (t113 : Int).toNat := (by rw [Ny141.out, List.length_drop] <;> omega)
      rw [show (t110).drop (t113 : Int).toNat = y141 from Ny141.out.symm] at hrz2
      replace hrz2 : Kd.C (Kd.int .u8) _ Az1 y141.length y141 := (by rw [hAz1]; exact hrz2)
      rw [← hyz2, ← hAz1, ← hcz1] at hcutz2
      have HRz2 := Aside0.mk hrz2
      have HCz2 := Aside0.mk (show y141.length ≤ cz1 from by rw [hyz2, hcz1]; exact Nat.sub_le_sub_right hroomz2 _)
      clear hrz2 hCz2 hroomz2 hiz2 hszz2 hcz1
      have KYz2 := Aside0.mk hyz2
      have KAz1 := Aside0.mk hAz1
      clear hyz2 hAz1
      have KLz2 := Aside0.mk (show (t113 : Int).toNat ≤ t110.length from by omega)
      replace qz2 := eq_true qz2
      refine start_ (n := 16) (S := fun w' => True) (ds := []) (bm 16 0) (by kernel_rfl) rfl (by kernel_rfl) trivial (fun hHeld => ?_); refine with_tabW spec_DrawTupleOf.tab8 spec_DrawTupleOf.bits8 (fun HT_ HW_ => ?_)
      generalize wz5.drew = wz6 at HOz1 HOz2 HIz1 HB HRz1 HRz2 hHeld ⊢
      refine pZ 1 26 (bm 16 2) HT_.out ?_
      refine pZ 2 27 (bm 16 6) HT_.out ?_
      refine pZ 3 28 (bm 16 14) HT_.out ?_
      refine pZ 5 30 (bm 16 46) HT_.out ?_
      refine pZ 10 35 (bm 16 1070) HT_.out ?_
      refine pZ 11 36 (bm 16 3118) HT_.out ?_
      refine pZ 12 37 (bm 16 7214) HT_.out ?_
      refine join_ (σ := Value × Value × Value) 6 #[true, true, true, true, true, true, true, false, false, false, true, true, true, false, false, false] (fun s_ => [(25, s_.1), (29, s_.2.1), (31, s_.2.2)]) (fun s_ w' => (Kd.R k37 37 w' w.heap.size (fun _ => True) (.slice Aoz1 t105.length coz1) t105) ∧ (Kd.R (Kd.int .u8) 5 w' w.heap.size (fun k_ => some k_ ≠ (s_.2.1 : Value).ownBlock) (.slice Aoz2 t110.length coz2) t110) ∧ (Kd.R (Kd.int .u8) 5 w' w.heap.size (fun k_ => some k_ ≠ (.slice Aoz2 t110.length coz2 : Value).ownBlock) s_.2.1 y129) ∧ (Kd.R (Kd.int .i64) 3 w' w.heap.size (fun _ => True) s_.2.2 y132) ∧ (IsS96 w w' gz1 t101 t117 t118) ∧ (Below w.heap.size w w')) ?_ ?_
      rotate_left
      · intro hCont
        refine two_ (i := 0) (j := 6) (Ni := some 25) (Nj := some 31) #[true, true, true, true, false, true, false, false, false, false, true, true, true, false, false, false] #[false, true, true, true, false, true, true, false, false, false, true, true, true, false, false, false] rfl rfl rfl rfl (two_of HT_.out (by kernel_rfl)) (by decide) (by decide) (fun K hK => ?_) (fun K hK => ?_)
        · skip
          refine Kd.R_lit_step (Kd.int .u8) _ 5 ?hg (N := 25) ?hd (xs := ([] : List Int)) (inner := []) (ok := fun _ => True) (okp := fun _ => True) ?hr ?hp (fun _ hk => hk) trivial (Below.refl _ _) (Nat.le_refl _) (by simp) ?_; (case hd => rfl); (case hg => rfl); (case hr => first | (go_simp; done) | (go_simp; rfl)); (case hp => exact (Reps.none _ _))
          intro vz3 wz7 hoz2 hb hg_ hnew_
          clear hg_ hnew_
          (first | rw [← Ny122.out] at hoz2 | (simp only [Int.reduceToNat] at hoz2; rw [← Ny122.out] at hoz2))
          have HOz3 := Aside0.mk (Kd.R_lower (Kd.R_new' hoz2 (Kd.R_lt (rX HOz2.out))) (below_size (hY HB.out (IsS96.ge HIz1.out))))
          replace HOz1 := Aside0.mk (Kd.R_below (rX HOz1.out) hb)
          replace HOz2 := Aside0.mk (Kd.R_elder' (rX HOz2.out) (Kd.R_base hoz2) hb)
          replace HRz1 := Aside0.mk (Kd.C_below (cX HRz1.out) hb)
          replace HRz2 := Aside0.mk (Kd.C_below (cX HRz2.out) hb)
          replace HB := Aside0.mk (below_step (hY HB.out (IsS96.ge HIz1.out)) hb)
          replace HIz1 := Aside0.mk (IsS96.below (i96 HIz1.out) hb)
          clear hb hoz2
          refine hK.out _ _ trivial (fun hHeld => ?_)
          clear hK K
          refine nZ 25 ?_
          refine two_ (i := 4) (j := 6) (Ni := some 29) (Nj := some 31) #[true, true, true, true, true, true, false, false, false, false, true, true, true, false, false, false] #[true, true, true, true, false, true, true, false, false, false, true, true, true, false, false, false] rfl rfl rfl rfl (two_of HT_.out (by kernel_rfl)) (by decide) (by decide) (fun K hK => ?_) (fun K hK => ?_)
          · skip
            refine Kd.R_append_rows_step (Kd.int .u8) (w0 := w) w.heap.size (by rfl) (.tmp 25) (.tmp 28) 22 5 (.int .u8 0) 1 rfl Try.underlying22 info5 rfl (by decide) (by omega) vz3 y122 y125 _ _ _ (fun k_ => some k_ ≠ (.slice Aoz2 t110.length coz2 : Value).ownBlock) (fun _ => False) rfl rfl ?aO ?aR (fun _ _ h => h) (fun _ h => h.elim) ?aF ?aB ?aS ?aL ?_
            (case aR => repeat (first | exact (cX HRz1.out) | (with_reducible refine Kd.C_alloc ?_ _) | (with_reducible refine Kd.C_drewN ?_ _) | (with_reducible refine Kd.C_drew ?_)))
            (case aB => exact (hY HB.out (IsS96.ge HIz1.out)))
            (case aF => exact (fun k_ hk => Kd.fresh' (Kd.R_lt (rX HOz2.out)) k_ hk))
            (case aO => exact (rT (h := by exact Kd.R_mono HOz3.out (fun _ hk => hk.2))))
            (case aS => exact (below_size (hY HB.out (IsS96.ge HIz1.out))))
            (case aL => have := LMc21.out; omega)
            intro vz4 wz8 ho hb hg hat
            rw [← Ny129.out] at ho
            have HOz4 := Aside0.mk (ho)
            replace HIz1 := Aside0.mk (IsS96.grown (i96 HIz1.out) hg (IsS96.own_ne HIz1.out HOz3.out (by decide)))
            replace HOz1 := Aside0.mk (Kd.R_over' (rX HOz1.out) (Kd.R_typed (rX HOz3.out)) (by decide) hg)
            replace HB := Aside0.mk (hb)
            replace HRz1 := Aside0.mk ((show Kd.C (Kd.int .u8) wz8 Aoz2 y125.length y125 from by rw [Ny125.out]; exact Kd.C_take (m := (t113 : Int).toNat) ((Kd.R_reads' (Kd.R_after (ok := (fun _ => True)) (rX HOz2.out) hg hat)).2.2) KLz1.out))
            replace HRz2 := Aside0.mk ((show Kd.C (Kd.int .u8) wz8 Az1 y141.length y141 from by rw [Ny141.out, KAz1.out]; exact Kd.C_drop (m := (t113 : Int).toNat) (c := coz2) ((Kd.R_reads' (Kd.R_after (ok := (fun _ => True)) (rX HOz2.out) hg hat)).2.2) KLz2.out ((Kd.R_reads' (Kd.R_after (ok := (fun _ => True)) (rX HOz2.out) hg hat)).2.1)))
            replace HOz2 := Aside0.mk (Kd.R_after (ok := (fun _ => True)) (rX HOz2.out) hg hat)
            clear HOz3
            clear ho hb hg hat
            refine hK.out _ _ trivial (fun hHeld => ?_)
            clear hK K
            refine nZ 29 ?_
            refine oZ 6 (some 31) (bm 16 7295) HT_.out (fun K hK => ?_)
            refine Kd.R_lit_step (Kd.int .i64) _ 3 ?hg (N := 31) ?hd (xs := ([0, 1, 2, 5, 255] : List Int)) (inner := [.int .i64 0, .int .i64 1, .int .i64 2, .int .i64 5, .int .i64 255]) (ok := fun _ => True) (okp := fun _ => True) ?hr ?hp (fun _ hk => hk) trivial (Below.refl _ _) (Nat.le_refl _) (by simp) ?_; (case hd => rfl); (case hg => rfl); (case hr => first | (go_simp; done) | (go_simp; rfl)); (case hp => exact (Reps.one (show Kd.M (Kd.int .i64) _ _ _ 0 [.int .i64 0] from rfl) (Reps.one (show Kd.M (Kd.int .i64) _ _ _ 1 [.int .i64 1] from rfl) (Reps.one (show Kd.M (Kd.int .i64) _ _ _ 2 [.int .i64 2] from rfl) (Reps.one (show Kd.M (Kd.int .i64) _ _ _ 5 [.int .i64 5] from rfl) (Reps.one (show Kd.M (Kd.int .i64) _ _ _ 255 [.int .i64 255] from rfl) (Reps.none _ _)))))))
            intro vz5 wz9 hoz3 hb hg_ hnew_
            clear hg_ hnew_
            (first | rw [← Ny132.out] at hoz3 | (simp only [Int.reduceToNat] at hoz3; rw [← Ny132.out] at hoz3))
            have HOz5 := Aside0.mk (Kd.R_lower hoz3 (below_size (hY HB.out (IsS96.ge HIz1.out))))
            replace HOz1 := Aside0.mk (Kd.R_below (rX HOz1.out) hb)
            replace HOz2 := Aside0.mk (Kd.R_below (rX HOz2.out) hb)
            replace HOz4 := Aside0.mk (Kd.R_below (rX HOz4.out) hb)
            replace HRz1 := Aside0.mk (Kd.C_below (cX HRz1.out) hb)
            replace HRz2 := Aside0.mk (Kd.C_below (cX HRz2.out) hb)
            replace HB := Aside0.mk (below_step (hY HB.out (IsS96.ge HIz1.out)) hb)
            replace HIz1 := Aside0.mk (IsS96.below (i96 HIz1.out) hb)
            clear hb hoz3
            refine hK.out _ _ trivial (fun hHeld => ?_)
            clear hK K
            refine nZ 31 ?_
            exact norm_ (by simp only [putAll, Act.put, List.setIfInBounds_toArray, List.set_cons_zero, List.set_cons_succ]) (hCont (vz3, vz4, vz5) _ ⟨(rX HOz1.out), (rT (h := by exact Kd.R_mono HOz2.out (fun _ hk => hk.2))), (rX HOz4.out), (rX HOz5.out), (i96 HIz1.out), (hY HB.out (IsS96.ge HIz1.out))⟩)
          · skip
            refine Kd.R_lit_step (Kd.int .i64) _ 3 ?hg (N := 31) ?hd (xs := ([0, 1, 2, 5, 255] : List Int)) (inner := [.int .i64 0, .int .i64 1, .int .i64 2, .int .i64 5, .int .i64 255]) (ok := fun _ => True) (okp := fun _ => True) ?hr ?hp (fun _ hk => hk) trivial (Below.refl _ _) (Nat.le_refl _) (by simp) ?_; (case hd => rfl); (case hg => rfl); (case hr => first | (go_simp; done) | (go_simp; rfl)); (case hp => exact (Reps.one (show Kd.M (Kd.int .i64) _ _ _ 0 [.int .i64 0] from rfl) (Reps.one (show Kd.M (Kd.int .i64) _ _ _ 1 [.int .i64 1] from rfl) (Reps.one (show Kd.M (Kd.int .i64) _ _ _ 2 [.int .i64 2] from rfl) (Reps.one (show Kd.M (Kd.int .i64) _ _ _ 5 [.int .i64 5] from rfl) (Reps.one (show Kd.M (Kd.int .i64) _ _ _ 255 [.int .i64 255] from rfl) (Reps.none _ _)))))))
            intro vz5 wz8 hoz4 hb hg_ hnew_
            clear hg_ hnew_
            (first | rw [← Ny132.out] at hoz4 | (simp only [Int.reduceToNat] at hoz4; rw [← Ny132.out] at hoz4))
            have HOz5 := Aside0.mk (Kd.R_lower hoz4 (below_size (hY HB.out (IsS96.ge HIz1.out))))
            replace HOz1 := Aside0.mk (Kd.R_below (rX HOz1.out) hb)
            replace HOz2 := Aside0.mk (Kd.R_below (rX HOz2.out) hb)
            replace HOz3 := Aside0.mk (Kd.R_below (rX HOz3.out) hb)
            replace HRz1 := Aside0.mk (Kd.C_below (cX HRz1.out) hb)
            replace HRz2 := Aside0.mk (Kd.C_below (cX HRz2.out) hb)
            replace HB := Aside0.mk (below_step (hY HB.out (IsS96.ge HIz1.out)) hb)
            replace HIz1 := Aside0.mk (IsS96.below (i96 HIz1.out) hb)
            clear hb hoz4
            refine hK.out _ _ trivial (fun hHeld => ?_)
            clear hK K
            refine nZ 31 ?_
            refine oZ 4 (some 29) (bm 16 7295) HT_.out (fun K hK => ?_)
            refine Kd.R_append_rows_step (Kd.int .u8) (w0 := w) w.heap.size (by rfl) (.tmp 25) (.tmp 28) 22 5 (.int .u8 0) 1 rfl Try.underlying22 info5 rfl (by decide) (by omega) vz3 y122 y125 _ _ _ (fun k_ => some k_ ≠ (.slice Aoz2 t110.length coz2 : Value).ownBlock) (fun _ => False) rfl rfl ?aO ?aR (fun _ _ h => h) (fun _ h => h.elim) ?aF ?aB ?aS ?aL ?_
            (case aR => repeat (first | exact (cX HRz1.out) | (with_reducible refine Kd.C_alloc ?_ _) | (with_reducible refine Kd.C_drewN ?_ _) | (with_reducible refine Kd.C_drew ?_)))
            (case aB => exact (hY HB.out (IsS96.ge HIz1.out)))
            (case aF => exact (fun k_ hk => Kd.fresh' (Kd.R_lt (rX HOz2.out)) k_ hk))
            (case aO => exact (rT (h := by exact Kd.R_mono HOz3.out (fun _ hk => hk.2))))
            (case aS => exact (below_size (hY HB.out (IsS96.ge HIz1.out))))
            (case aL => have := LMc21.out; omega)
            intro vz4 wz10 ho hb hg hat
            rw [← Ny129.out] at ho
            have HOz4 := Aside0.mk (ho)
            replace HIz1 := Aside0.mk (IsS96.grown (i96 HIz1.out) hg (IsS96.own_ne HIz1.out HOz3.out (by decide)))
            replace HOz1 := Aside0.mk (Kd.R_over' (rX HOz1.out) (Kd.R_typed (rX HOz3.out)) (by decide) hg)
            replace HOz5 := Aside0.mk (Kd.R_over' (rX HOz5.out) (Kd.R_typed (rX HOz3.out)) (by decide) hg)
            replace HB := Aside0.mk (hb)
            replace HRz1 := Aside0.mk ((show Kd.C (Kd.int .u8) wz10 Aoz2 y125.length y125 from by rw [Ny125.out]; exact Kd.C_take (m := (t113 : Int).toNat) ((Kd.R_reads' (Kd.R_after (ok := (fun _ => True)) (rX HOz2.out) hg hat)).2.2) KLz1.out))
            replace HRz2 := Aside0.mk ((show Kd.C (Kd.int .u8) wz10 Az1 y141.length y141 from by rw [Ny141.out, KAz1.out]; exact Kd.C_drop (m := (t113 : Int).toNat) (c := coz2) ((Kd.R_reads' (Kd.R_after (ok := (fun _ => True)) (rX HOz2.out) hg hat)).2.2) KLz2.out ((Kd.R_reads' (Kd.R_after (ok := (fun _ => True)) (rX HOz2.out) hg hat)).2.1)))
            replace HOz2 := Aside0.mk (Kd.R_after (ok := (fun _ => True)) (rX HOz2.out) hg hat)
            clear HOz3
            clear ho hb hg hat
            refine hK.out _ _ trivial (fun hHeld => ?_)
            clear hK K
            refine nZ 29 ?_
            exact norm_ (by simp only [putAll, Act.put, List.setIfInBounds_toArray, List.set_cons_zero, List.set_cons_succ]) (hCont (vz3, vz4, vz5) _ ⟨(rX HOz1.out), (rT (h := by exact Kd.R_mono HOz2.out (fun _ hk => hk.2))), (rX HOz4.out), (rX HOz5.out), (i96 HIz1.out), (hY HB.out (IsS96.ge HIz1.out))⟩)
        · skip
          refine Kd.R_lit_step (Kd.int .i64) _ 3 ?hg (N := 31) ?hd (xs := ([0, 1, 2, 5, 255] : List Int)) (inner := [.int .i64 0, .int .i64 1, .int .i64 2, .int .i64 5, .int .i64 255]) (ok := fun _ => True) (okp := fun _ => True) ?hr ?hp (fun _ hk => hk) trivial (Below.refl _ _) (Nat.le_refl _) (by simp) ?_; (case hd => rfl); (case hg => rfl); (case hr => first | (go_simp; done) | (go_simp; rfl)); (case hp => exact (Reps.one (show Kd.M (Kd.int .i64) _ _ _ 0 [.int .i64 0] from rfl) (Reps.one (show Kd.M (Kd.int .i64) _ _ _ 1 [.int .i64 1] from rfl) (Reps.one (show Kd.M (Kd.int .i64) _ _ _ 2 [.int .i64 2] from rfl) (Reps.one (show Kd.M (Kd.int .i64) _ _ _ 5 [.int .i64 5] from rfl) (Reps.one (show Kd.M (Kd.int .i64) _ _ _ 255 [.int .i64 255] from rfl) (Reps.none _ _)))))))
          intro vz5 wz7 hoz2 hb hg_ hnew_
          clear hg_ hnew_
          (first | rw [← Ny132.out] at hoz2 | (simp only [Int.reduceToNat] at hoz2; rw [← Ny132.out] at hoz2))
          have HOz5 := Aside0.mk (Kd.R_lower hoz2 (below_size (hY HB.out (IsS96.ge HIz1.out))))
          replace HOz1 := Aside0.mk (Kd.R_below (rX HOz1.out) hb)
          replace HOz2 := Aside0.mk (Kd.R_below (rX HOz2.out) hb)
          replace HRz1 := Aside0.mk (Kd.C_below (cX HRz1.out) hb)
          replace HRz2 := Aside0.mk (Kd.C_below (cX HRz2.out) hb)
          replace HB := Aside0.mk (below_step (hY HB.out (IsS96.ge HIz1.out)) hb)
          replace HIz1 := Aside0.mk (IsS96.below (i96 HIz1.out) hb)
          clear hb hoz2
          refine hK.out _ _ trivial (fun hHeld => ?_)
          clear hK K
          refine nZ 31 ?_
          refine oZ 0 (some 25) (bm 16 7279) HT_.out (fun K hK => ?_)
          refine Kd.R_lit_step (Kd.int .u8) _ 5 ?hg (N := 25) ?hd (xs := ([] : List Int)) (inner := []) (ok := fun _ => True) (okp := fun _ => True) ?hr ?hp (fun _ hk => hk) trivial (Below.refl _ _) (Nat.le_refl _) (by simp) ?_; (case hd => rfl); (case hg => rfl); (case hr => first | (go_simp; done) | (go_simp; rfl)); (case hp => exact (Reps.none _ _))
          intro vz3 wz8 hoz4 hb hg_ hnew_
          clear hg_ hnew_
          (first | rw [← Ny122.out] at hoz4 | (simp only [Int.reduceToNat] at hoz4; rw [← Ny122.out] at hoz4))
          have HOz3 := Aside0.mk (Kd.R_lower (Kd.R_new' hoz4 (Kd.R_lt (rX HOz2.out))) (below_size (hY HB.out (IsS96.ge HIz1.out))))
          replace HOz1 := Aside0.mk (Kd.R_below (rX HOz1.out) hb)
          replace HOz2 := Aside0.mk (Kd.R_elder' (rX HOz2.out) (Kd.R_base hoz4) hb)
          replace HOz5 := Aside0.mk (Kd.R_below (rX HOz5.out) hb)
          replace HRz1 := Aside0.mk (Kd.C_below (cX HRz1.out) hb)
          replace HRz2 := Aside0.mk (Kd.C_below (cX HRz2.out) hb)
          replace HB := Aside0.mk (below_step (hY HB.out (IsS96.ge HIz1.out)) hb)
          replace HIz1 := Aside0.mk (IsS96.below (i96 HIz1.out) hb)
          clear hb hoz4
          refine hK.out _ _ trivial (fun hHeld => ?_)
          clear hK K
          refine nZ 25 ?_
          refine oZ 4 (some 29) (bm 16 7295) HT_.out (fun K hK => ?_)
          refine Kd.R_append_rows_step (Kd.int .u8) (w0 := w) w.heap.size (by rfl) (.tmp 25) (.tmp 28) 22 5 (.int .u8 0) 1 rfl Try.underlying22 info5 rfl (by decide) (by omega) vz3 y122 y125 _ _ _ (fun k_ => some k_ ≠ (.slice Aoz2 t110.length coz2 : Value).ownBlock) (fun _ => False) rfl rfl ?aO ?aR (fun _ _ h => h) (fun _ h => h.elim) ?aF ?aB ?aS ?aL ?_
          (case aR => repeat (first | exact (cX HRz1.out) | (with_reducible refine Kd.C_alloc ?_ _) | (with_reducible refine Kd.C_drewN ?_ _) | (with_reducible refine Kd.C_drew ?_)))
          (case aB => exact (hY HB.out (IsS96.ge HIz1.out)))
          (case aF => exact (fun k_ hk => Kd.fresh' (Kd.R_lt (rX HOz2.out)) k_ hk))
          (case aO => exact (rT (h := by exact Kd.R_mono HOz3.out (fun _ hk => hk.2))))
          (case aS => exact (below_size (hY HB.out (IsS96.ge HIz1.out))))
          (case aL => have := LMc21.out; omega)
          intro vz4 wz10 ho hb hg hat
          rw [← Ny129.out] at ho
          have HOz4 := Aside0.mk (ho)
          replace HIz1 := Aside0.mk (IsS96.grown (i96 HIz1.out) hg (IsS96.own_ne HIz1.out HOz3.out (by decide)))
          replace HOz1 := Aside0.mk (Kd.R_over' (rX HOz1.out) (Kd.R_typed (rX HOz3.out)) (by decide) hg)
          replace HOz5 := Aside0.mk (Kd.R_over' (rX HOz5.out) (Kd.R_typed (rX HOz3.out)) (by decide) hg)
          replace HB := Aside0.mk (hb)
          replace HRz1 := Aside0.mk ((show Kd.C (Kd.int .u8) wz10 Aoz2 y125.length y125 from by rw [Ny125.out]; exact Kd.C_take (m := (t113 : Int).toNat) ((Kd.R_reads' (Kd.R_after (ok := (fun _ => True)) (rX HOz2.out) hg hat)).2.2) KLz1.out))
          replace HRz2 := Aside0.mk ((show Kd.C (Kd.int .u8) wz10 Az1 y141.length y141 from by rw [Ny141.out, KAz1.out]; exact Kd.C_drop (m := (t113 : Int).toNat) (c := coz2) ((Kd.R_reads' (Kd.R_after (ok := (fun _ => True)) (rX HOz2.out) hg hat)).2.2) KLz2.out ((Kd.R_reads' (Kd.R_after (ok := (fun _ => True)) (rX HOz2.out) hg hat)).2.1)))
          replace HOz2 := Aside0.mk (Kd.R_after (ok := (fun _ => True)) (rX HOz2.out) hg hat)
          clear HOz3
          clear ho hb hg hat
          refine hK.out _ _ trivial (fun hHeld => ?_)
          clear hK K
          refine nZ 29 ?_
          exact norm_ (by simp only [putAll, Act.put, List.setIfInBounds_toArray, List.set_cons_zero, List.set_cons_succ]) (hCont (vz3, vz4, vz5) _ ⟨(rX HOz1.out), (rT (h := by exact Kd.R_mono HOz2.out (fun _ hk => hk.2))), (rX HOz4.out), (rX HOz5.out), (i96 HIz1.out), (hY HB.out (IsS96.ge HIz1.out))⟩)
      rintro ⟨vz3, vz4, vz5⟩ wz11 ⟨hz1, hz2, hz3, hz4, hz5, hz6⟩
      have nz1 : Aside0 (Kd.R k37 37 wz11 w.heap.size (fun _ => True) (.slice Aoz1 t105.length coz1) t105) := ⟨hz1⟩
      have nz2 : Aside0 (Kd.R (Kd.int .u8) 5 wz11 w.heap.size (fun k_ => some k_ ≠ (vz4 : Value).ownBlock) (.slice Aoz2 t110.length coz2) t110) := ⟨hz2⟩
      have nz3 : Aside0 (Kd.R (Kd.int .u8) 5 wz11 w.heap.size (fun k_ => some k_ ≠ (.slice Aoz2 t110.length coz2 : Value).ownBlock) vz4 y129) := ⟨hz3⟩
      have nz4 : Aside0 (Kd.R (Kd.int .i64) 3 wz11 w.heap.size (fun _ => True) vz5 y132) := ⟨hz4⟩
      have nz5 : Aside0 (IsS96 w wz11 gz1 t101 t117 t118) := ⟨hz5⟩
      have nz6 : Aside0 (Below w.heap.size w wz11) := ⟨hz6⟩
      clear HOz1
      clear HOz2
      clear HIz1
      clear HB
      clear hz1 hz2 hz3 hz4 hz5 hz6
      have HOz1 := nz1
      have HOz2 := nz2
      have HOz4 := nz3
      have HOz5 := nz4
      have HIz1 := nz5
      have HB := nz6
      clear nz1 nz2 nz3 nz4 nz5 nz6
      have hHeld := trivial
      have n_ := Aside0.mk (show Kd.C (Kd.int .u8) wz11 Az1 y141.length y141 from by rw [Ny141.out, KAz1.out]; exact Kd.C_drop (m := (t113 : Int).toNat) (c := coz2) ((Kd.R_reads' (HOz2.out)).2.2) KLz2.out ((Kd.R_reads' (HOz2.out)).2.1))
      (try clear HRz2)
      have HRz2 := n_
      clear n_
      obtain ⟨Aoz3, coz3, eoz3⟩ := Kd.R_slice HOz5.out
      (first | subst eoz3 | (injection eoz3 with f1_ f2_ f3_; have fz1 := f1_.symm; have fz2 := f3_.symm; clear f1_ f2_ f3_; subst fz1; subst fz2))
      refine norm_ (a' := ?_) ?_ ?_
      rotate_left
      · simp only [putAll, Act.put, List.setIfInBounds_toArray, List.set_cons_zero, List.set_cons_succ]
        rfl
      refine oZ 7 (some 32) (bm 16 7423) HT_.out (fun K hK => ?_)
      refine goesN Try.func73 #[.pointer (some ⟨gz1, 0, none⟩), .slice Aoz3 y132.length coz3] ?_
      with_reducible refine (spec_l1PickInt.calls gz1 t101 t117 t118 _ _ y132 t135 t136 t137 w _ ?side1 ?side2 ?side3 ?side4 ?side5 A22.out).mono ?_
      (case side1 => repeat (first | (with_reducible first | exact HIz1.out | apply IsS96.alloc | apply IsS96.drewN | apply IsS96.drew | apply IsS96.set_1 | apply IsS96.set_2) | exact HIz1.out))
      (case side2 => repeat (first | (with_reducible first | exact HB.out | apply below_alloc | apply pw_below_drewN | apply below_drew1 | refine below_set ?_ (IsS96.ge HIz1.out)) | exact HB.out))
      (case side3 => repeat (first | exact (Kd.R_reads' HOz5.out).2.2 | (with_reducible refine Kd.C_alloc ?_ _) | (with_reducible refine Kd.C_drewN ?_ _) | (with_reducible refine Kd.C_drew ?_)))
      (case side4 => exact (Kd.R_reads' HOz5.out).2.1)
      (case side5 => exact far_slice (IsS96.own_ne HIz1.out HOz5.out (by decide)))
      rintro e wz12 ⟨rfl, hi, hb, hk⟩
      refine ⟨_, rfl, ?_⟩
      replace HOz1 := Aside0.mk (Kd.R_mono (Kd.R_keep (IsS96.apart (show IsS96 w _ gz1 t101 t117 t118 from (i96 HIz1.out)) (rX HOz1.out) (by decide)) hk (fun _ h => h.2)) (fun _ h => h.1))
      replace HOz4 := Aside0.mk (Kd.R_mono (Kd.R_keep (IsS96.apart (show IsS96 w _ gz1 t101 t117 t118 from (i96 HIz1.out)) (rX HOz4.out) (by decide)) hk (fun _ h => h.2)) (fun _ h => h.1))
      replace HOz5 := Aside0.mk (Kd.R_mono (Kd.R_keep (IsS96.apart (show IsS96 w _ gz1 t101 t117 t118 from (i96 HIz1.out)) (rX HOz5.out) (by decide)) hk (fun _ h => h.2)) (fun _ h => h.1))
      replace HB := Aside0.mk (hb)
      replace HRz2 := Aside0.mk ((show Kd.C (Kd.int .u8) wz12 Az1 y141.length y141 from by rw [Ny141.out, KAz1.out]; exact Kd.C_drop (m := (t113 : Int).toNat) (c := coz2) ((Kd.R_reads' (Kd.R_mono (Kd.R_keep (IsS96.apart (show IsS96 w _ gz1 t101 t117 t118 from (i96 HIz1.out)) (rX HOz2.out) (by decide)) hk (fun _ h => h.2)) (fun _ h => h.1))).2.2) KLz2.out ((Kd.R_reads' (Kd.R_mono (Kd.R_keep (IsS96.apart (show IsS96 w _ gz1 t101 t117 t118 from (i96 HIz1.out)) (rX HOz2.out) (by decide)) hk (fun _ h => h.2)) (fun _ h => h.1))).2.1)))
      replace HOz2 := Aside0.mk (Kd.R_mono (Kd.R_keep (IsS96.apart (show IsS96 w _ gz1 t101 t117 t118 from (i96 HIz1.out)) (rX HOz2.out) (by decide)) hk (fun _ h => h.2)) (fun _ h => h.1))
      replace HIz1 := Aside0.mk (hi)
      (try clear hb)
      (try clear hbz1)
      (try clear hk)
      (try clear hi)
      refine hK.out _ _ trivial (fun hHeld => ?_)
      clear hK K
      refine nZ 32 ?_
      refine pZ 8 33 (bm 16 7679) HT_.out ?_
      refine oZ 9 (some 34) (bm 16 8191) HT_.out (fun K hK => ?_)
      refine Kd.R_lit_step (Kd.int .u8) _ 5 ?hg (N := 34) ?hd (xs := ([(t135) % 256] : List Int)) (inner := [.int .u8 ((t135) % 256)]) (ok := fun _ => True) (okp := fun _ => True) ?hr ?hp (fun _ hk => hk) trivial (Below.refl _ _) (Nat.le_refl _) (by simp) ?_; (case hd => rfl); (case hg => rfl); (case hr => first | (go_simp; done) | (go_simp; rfl)); (case hp => exact (Reps.one (show Kd.M (Kd.int .u8) _ _ _ ((t135) % 256) [.int .u8 ((t135) % 256)] from rfl) (Reps.none _ _)))
      intro vz6 wz13 hoz5 hb hg_ hnew_
      clear hg_ hnew_
      (first | rw [← Ny138.out] at hoz5 | (simp only [Int.reduceToNat] at hoz5; rw [← Ny138.out] at hoz5))
      have HOz6 := Aside0.mk (Kd.R_lower (Kd.R_new' (Kd.R_new' hoz5 (Kd.R_lt (rX HOz2.out))) (Kd.R_lt (rX HOz4.out))) (below_size (hY HB.out (IsS96.ge HIz1.out))))
      replace HOz1 := Aside0.mk (Kd.R_below (rX HOz1.out) hb)
      replace HOz2 := Aside0.mk (Kd.R_elder' (rX HOz2.out) (Kd.R_base hoz5) hb)
      replace HOz4 := Aside0.mk (Kd.R_elder' (rX HOz4.out) (Kd.R_base hoz5) hb)
      replace HOz5 := Aside0.mk (Kd.R_below (rX HOz5.out) hb)
      replace HRz2 := Aside0.mk (Kd.C_below (cX HRz2.out) hb)
      replace HB := Aside0.mk (below_step (hY HB.out (IsS96.ge HIz1.out)) hb)
      replace HIz1 := Aside0.mk (IsS96.below (i96 HIz1.out) hb)
      clear hb hoz5
      refine hK.out _ _ trivial (fun hHeld => ?_)
      clear hK K
      refine nZ 34 ?_
      refine oZ 13 (some 38) (bm 16 16383) HT_.out (fun K hK => ?_)
      refine Kd.R_append_rows_step (Kd.int .u8) (w0 := w) w.heap.size (by rfl) (.tmp 34) (.tmp 37) 22 5 (.int .u8 0) 1 rfl Try.underlying22 info5 rfl (by decide) (by omega) vz6 y138 y141 _ _ _ (fun k_ => some k_ ≠ (.slice Aoz2 t110.length coz2 : Value).ownBlock ∧ some k_ ≠ (vz4 : Value).ownBlock) (fun _ => False) rfl rfl ?aO ?aR (fun _ _ h => h) (fun _ h => h.elim) ?aF ?aB ?aS ?aL ?_
      (case aR => repeat (first | exact (cX HRz2.out) | (with_reducible refine Kd.C_alloc ?_ _) | (with_reducible refine Kd.C_drewN ?_ _) | (with_reducible refine Kd.C_drew ?_)))
      (case aB => exact (hY HB.out (IsS96.ge HIz1.out)))
      (case aF => exact (fun k_ hk => ⟨Kd.fresh' (Kd.R_lt (rX HOz2.out)) k_ hk, Kd.fresh' (Kd.R_lt (rX HOz4.out)) k_ hk⟩))
      (case aO => exact (rT (h := by exact Kd.R_mono HOz6.out (fun _ hk => ⟨hk.1.2, hk.2⟩))))
      (case aS => exact (below_size (hY HB.out (IsS96.ge HIz1.out))))
      (case aL => have := LMc25.out; omega)
      intro vz7 wz14 ho hb hg hat
      rw [← Ny145.out] at ho
      have HOz7 := Aside0.mk (ho)
      replace HIz1 := Aside0.mk (IsS96.grown (i96 HIz1.out) hg (IsS96.own_ne HIz1.out HOz6.out (by decide)))
      replace HOz1 := Aside0.mk (Kd.R_over' (rX HOz1.out) (Kd.R_typed (rX HOz6.out)) (by decide) hg)
      replace HOz4 := Aside0.mk (Kd.R_after (ok := (fun k_ => some k_ ≠ (.slice Aoz2 t110.length coz2 : Value).ownBlock)) (rX HOz4.out) hg hat)
      replace HOz5 := Aside0.mk (Kd.R_over' (rX HOz5.out) (Kd.R_typed (rX HOz6.out)) (by decide) hg)
      replace HB := Aside0.mk (hb)
      replace HRz2 := Aside0.mk ((show Kd.C (Kd.int .u8) wz14 Az1 y141.length y141 from by rw [Ny141.out, KAz1.out]; exact Kd.C_drop (m := (t113 : Int).toNat) (c := coz2) ((Kd.R_reads' (Kd.R_after (ok := (fun k_ => some k_ ≠ (vz4 : Value).ownBlock)) (rX HOz2.out) hg hat)).2.2) KLz2.out ((Kd.R_reads' (Kd.R_after (ok := (fun k_ => some k_ ≠ (vz4 : Value).ownBlock)) (rX HOz2.out) hg hat)).2.1)))
      replace HOz2 := Aside0.mk (Kd.R_after (ok := (fun k_ => some k_ ≠ (vz4 : Value).ownBlock)) (rX HOz2.out) hg hat)
      clear HOz6
      clear ho hb hg hat
      obtain ⟨Aoz4, coz4, eoz4⟩ := Kd.R_slice HOz7.out
      (first | subst eoz4 | (injection eoz4 with f1_ f2_ f3_; have fz1 := f1_.symm; have fz2 := f3_.symm; clear f1_ f2_ f3_; subst fz1; subst fz2))
      refine hK.out _ _ trivial (fun hHeld => ?_)
      clear hK K
      refine nZ 38 ?_
      refine oZ 14 (some 39) (bm 16 32767) HT_.out (fun K hK => ?_)
      refine Kd.R_append_rows_step (Kd.int .u8) (w0 := w) w.heap.size (by rfl) (.tmp 29) (.tmp 38) 22 5 (.int .u8 0) 1 rfl Try.underlying22 info5 rfl (by decide) (by omega) vz4 y129 y145 _ _ _ (fun k_ => some k_ ≠ (.slice Aoz2 t110.length coz2 : Value).ownBlock ∧ some k_ ≠ (.slice Aoz4 y145.length coz4 : Value).ownBlock) (fun _ => False) rfl rfl ?aO ?aR (fun _ _ h => h) (fun _ h => h.elim) ?aF ?aB ?aS ?aL ?_
      (case aR => repeat (first | exact (Kd.R_reads' HOz7.out).2.2 | (with_reducible refine Kd.C_alloc ?_ _) | (with_reducible refine Kd.C_drewN ?_ _) | (with_reducible refine Kd.C_drew ?_)))
      (case aB => exact (hY HB.out (IsS96.ge HIz1.out)))
      (case aF => exact (fun k_ hk => ⟨Kd.fresh' (Kd.R_lt (rX HOz2.out)) k_ hk, Kd.fresh' (Kd.R_lt (rX HOz7.out)) k_ hk⟩))
      (case aO => exact (rX HOz4.out))
      (case aS => exact (below_size (hY HB.out (IsS96.ge HIz1.out))))
      (case aL => have := LMc26.out; omega)
      intro vz8 wz15 ho hb hg hat
      rw [← Ny148.out] at ho
      have HOz8 := Aside0.mk (ho)
      replace HIz1 := Aside0.mk (IsS96.grown (i96 HIz1.out) hg (IsS96.own_ne HIz1.out HOz4.out (by decide)))
      replace HOz1 := Aside0.mk (Kd.R_over' (rX HOz1.out) (Kd.R_typed (rX HOz4.out)) (by decide) hg)
      replace HOz5 := Aside0.mk (Kd.R_over' (rX HOz5.out) (Kd.R_typed (rX HOz4.out)) (by decide) hg)
      replace HOz7 := Aside0.mk (Kd.R_after (ok := (fun k_ => some k_ ≠ (.slice Aoz2 t110.length coz2 : Value).ownBlock)) (rX HOz7.out) hg hat)
      replace HB := Aside0.mk (hb)
      replace HRz2 := Aside0.mk ((show Kd.C (Kd.int .u8) wz15 Az1 y141.length y141 from by rw [Ny141.out, KAz1.out]; exact Kd.C_drop (m := (t113 : Int).toNat) (c := coz2) ((Kd.R_reads' (Kd.R_after (ok := (fun k_ => some k_ ≠ (.slice Aoz4 y145.length coz4 : Value).ownBlock)) (rT (h := by exact Kd.R_mono HOz2.out (fun _ hk => ⟨hk.2, hk.1⟩))) hg hat)).2.2) KLz2.out ((Kd.R_reads' (Kd.R_after (ok := (fun k_ => some k_ ≠ (.slice Aoz4 y145.length coz4 : Value).ownBlock)) (rT (h := by exact Kd.R_mono HOz2.out (fun _ hk => ⟨hk.2, hk.1⟩))) hg hat)).2.1)))
      replace HOz2 := Aside0.mk (Kd.R_after (ok := (fun k_ => some k_ ≠ (.slice Aoz4 y145.length coz4 : Value).ownBlock)) (rT (h := by exact Kd.R_mono HOz2.out (fun _ hk => ⟨hk.2, hk.1⟩))) hg hat)
      clear HOz4
      clear ho hb hg hat
      refine hK.out _ _ trivial (fun hHeld => ?_)
      clear hK K
      refine nZ 39 ?_
      refine pZ 15 2 (bm 16 65535) HT_.out ?_
      refine done_ (done_of HT_.out (by kernel_rfl)) ?_
      try go_wp2
      go_ret
      exact ⟨_, rE, (rT (h := by exact Kd.R_mono HOz8.out (fun _ hk => trivial))), (hY HB.out (IsS96.ge HIz1.out))⟩
    · rw [if_neg c18] at H
      obtain ⟨c18b0, c18b1⟩ := eqF c18
      obtain rfl := Option.some.inj H
      go_wp2
      go_ret
      exact ⟨_, rE, (rX HOz2.out), (hY HB.out (IsS96.ge HIz1.out))⟩
def impl_takeText.l0 : Nat → List Int → List Int → Int → Option (ByteArray × List Int)
  | 0, _, _, _ => none
  | k + 1, x0, x4, x5 => if x5 < (x0.length : Int) then (if 0 ≤ x5 then (if (rd x0 x5) = 0 then (if (wrap64 (x5 + 1)) < (x0.length : Int) then (if 0 ≤ (wrap64 (x5 + 1)) then (if (rd x0 (wrap64 (x5 + 1))) = 1 then (if 0 ≤ (wrap64 (x5 + 2)) then (if (wrap64 (x5 + 2)) ≤ (x0.length : Int) then (some (strOfNums x4, (x0.drop ((wrap64 (x5 + 2)) : Int).toNat))) else (none)) else (none)) else (if x4.length < 140737488355328 then (impl_takeText.l0 k x0 (x4 ++ [0]) (wrap64 ((wrap64 (x5 + 1)) + 1))) else (none))) else (none)) else (if x4.length < 140737488355328 then (impl_takeText.l0 k x0 (x4 ++ [0]) (wrap64 ((wrap64 (x5 + 1)) + 1))) else (none))) else (if x4.length < 140737488355328 then (impl_takeText.l0 k x0 (x4 ++ [rd x0 x5]) (wrap64 (x5 + 1))) else (none))) else (none)) else (some (strOfNums x4, ([] : List Int)))
def impl_takeText.f (k : Nat) (l0 : List Int) : Option (ByteArray × List Int) := impl_takeText.l0 k l0 (([] : List Int)) 0
set_option maxHeartbeats 8000000 in
set_option maxRecDepth 100000 in
theorem impl_takeText.calls (k : Nat) (P0_ : Nat → Prop) (A0 : Option Addr) (c0 : Nat) (l0 : List Int) (r1 : ByteArray) (r2 : List Int) (w : World) (hs0 : Kd.V (Kd.int .u8) 5 w w.heap.size (fun k_ => P0_ k_) (.slice A0 l0.length c0) l0) (h : impl_takeText.f k l0 = some (r1, r2)) :
    Calls Try.prog 89 #[.slice A0 l0.length c0] w fun e w' => ∃ v1_ : Value, e = .returned (.tuple #[.string r1, v1_]) ∧ Kd.V (Kd.int .u8) 5 w' w.heap.size (fun k_ => (P0_ k_ ∨ w.heap.size ≤ k_)) v1_ r2 ∧ Below w.heap.size w w' := by
  have HO0 := aM (show Kd.V (Kd.int .u8) 5 w w.heap.size (fun k_ => (P0_ k_ ∨ w.heap.size ≤ k_)) (.slice A0 l0.length c0) l0 from Kd.V_mono hs0 (fun k_ hk => .inl hk))
  have HB := aM (Below.refl w.heap.size w)
  have H := h
  unfold impl_takeText.f at H
  clear h
  obtain ⟨y101, hy101⟩ : ∃ y_ : List Int, y_ = (([] : List Int)) := ⟨_, rfl⟩
  replace H : (impl_takeText.l0 k l0 y101 0) = some (r1, r2) := yH H hy101
  have Ny101 := aM hy101
  clear hy101
  have H' := aM H
  clear H
  go_enter Try.func89, Try.ntmps89
  go_wp2_with (first | ((with_reducible refine gate_dst (N := 6) rfl ?_); refine Kd.R_lit (Kd.int .u8) _ 5 ?hg (N := 6) ?hd (xs := ([] : List Int)) (inner := []) (ok := fun _ => True) (okp := fun _ => True) ?hr ?hp (fun _ hk => hk) trivial (Below.refl _ _) (Nat.le_refl _) (by simp) ?_; (case hd => rfl); (case hg => rfl); (case hr => first | (go_simp; done) | (go_simp; rfl)); (case hp => exact (Reps.none _ _)); intro vz1 wz1 hoz1 hb hg_ hnew_; clear hg_ hnew_; (first | rw [← Ny101.out] at hoz1 | (simp only [Int.reduceToNat] at hoz1; rw [← Ny101.out] at hoz1)); have HOz1 := aM (Kd.R_lower (Kd.R_newM (M := fun k_ => (w.heap.size ≤ k_)) hoz1 (below_size (hX HB.out)) (fun k_ h_ => h_)) (below_size (hX HB.out))); replace HO0 := aM (Kd.V_elder' (vX HO0.out) (Kd.R_base hoz1) hb); replace HB := aS HB hb; clear hb hoz1))
  repeat (go_quiet (fail); try go_wp2_with (first | ((with_reducible refine gate_dst (N := 6) rfl ?_); refine Kd.R_lit (Kd.int .u8) _ 5 ?hg (N := 6) ?hd (xs := ([] : List Int)) (inner := []) (ok := fun _ => True) (okp := fun _ => True) ?hr ?hp (fun _ hk => hk) trivial (Below.refl _ _) (Nat.le_refl _) (by simp) ?_; (case hd => rfl); (case hg => rfl); (case hr => first | (go_simp; done) | (go_simp; rfl)); (case hp => exact (Reps.none _ _)); intro vz1 wz1 hoz1 hb hg_ hnew_; clear hg_ hnew_; (first | rw [← Ny101.out] at hoz1 | (simp only [Int.reduceToNat] at hoz1; rw [← Ny101.out] at hoz1)); have HOz1 := aM (Kd.R_lower (Kd.R_newM (M := fun k_ => (w.heap.size ≤ k_)) hoz1 (below_size (hX HB.out)) (fun k_ h_ => h_)) (below_size (hX HB.out))); replace HO0 := aM (Kd.V_elder' (vX HO0.out) (Kd.R_base hoz1) hb); replace HB := aS HB hb; clear hb hoz1)))
  go_loopg [4, 5] k (fun kq v4 v5 w' => ∃ (x4_1 : List Int) (x5_1 : Int), v5 = .int .i64 x5_1 ∧ Aside0 (impl_takeText.l0 kq l0 x4_1 x5_1 = some (r1, r2)) ∧ Aside0 (kq ≤ k) ∧ Aside0 (Kd.V (Kd.int .u8) 5 w' w.heap.size (fun k_ => (P0_ k_ ∨ w.heap.size ≤ k_) ∧ some k_ ≠ (v4 : Value).ownBlock) (.slice A0 l0.length c0) l0) ∧ Aside0 (Kd.R (Kd.int .u8) 5 w' w.heap.size (fun k_ => (w.heap.size ≤ k_)) v4 x4_1) ∧ Aside0 (Below w.heap.size w w'))
  case atStart => exact ⟨(y101), (0), rS, H', ⟨Nat.le_refl _⟩, ⟨(vX HO0.out)⟩, ⟨(rT (h := by exact Kd.R_mono HOz1.out (fun _ hk => hk.1)))⟩, ⟨(hX HB.out)⟩⟩
  case round =>
    clear H'
    try clear p2
    obtain ⟨x4_1, x5_1, rfl, HA, HKy1, HO_y1, HO_y2, HB⟩ := hrel
    cases gk with
    | zero => exact absurd HA.out (by simp [impl_takeText.l0])
    | succ k1 =>
      have H := HA.out
      clear HA
      simp only [impl_takeText.l0] at H
      by_cases c4 : x5_1 < (l0.length : Int)
      case neg =>
        rw [if_neg c4] at H
        have c4b0 := decide_eq_false c4
        clear c4
        simp only [Option.some.injEq, Prod.mk.injEq] at H
        obtain ⟨rfl, rfl⟩ := H
        have hcvx1 := own_string (P := Try.prog) Try.underlying22 Try.underlying5 Try.underlying9 (Kd.own_of_R HO_y2.out)
        have hcvqx1 := fun (n_ : Nat) => own_string (P := Try.prog) Try.underlying22 Try.underlying5 Try.underlying9 (pw_own_drewN (Kd.own_of_R HO_y2.out) n_)
        go_wp2
        repeat (go_quiet (fail); try go_wp2)
        go_ret2
        exact ⟨(Value.slice none 0 0), rE, (by first | exact Kd.R_nil _ _ _ _ _ | exact Kd.S_nil _ _ _ _ _ | exact Kd.V_nil _ _ _ _ _ | exact Kd.N_nil _ _ _ _ _ | exact Kd.Q_nil _ _ _ _ _), (hX HB.out)⟩
      rw [if_pos c4] at H
      have c4b0 := decide_eq_true c4
      clear c4
      replace H := ifP H; obtain ⟨c5, H⟩ := H
      have c5b0 := decide_eq_true c5
      clear c5
      by_cases c6 : (rd l0 x5_1) = 0
      case neg =>
        rw [if_neg c6] at H
        obtain ⟨c6b0, c6b1⟩ := eqF c6
        replace H := ifP H; obtain ⟨c20, H⟩ := H
        have LMc20 := aM c20
        clear c20
        obtain ⟨y118, hy118⟩ : ∃ y_ : List Int, y_ = (x4_1 ++ [rd l0 x5_1]) := ⟨_, rfl⟩
        replace H : (impl_takeText.l0 k1 l0 y118 (wrap64 (x5_1 + 1))) = some (r1, r2) := yH H hy118
        have Ny118 := aM hy118
        clear hy118
        have H' := aM H
        clear H
        have px1 : 0 ≤ (x5_1 : Int) := odA
        have qx1 : x5_1 < (l0.length : Int) := odA
        obtain ⟨adx1, ex1, hxx1⟩ := Kd.at_int (Kd.V_reads' HO_y1.out).2.2 x5_1 px1 qx1
        cases ex1
        replace px1 := eq_true px1
        replace qx1 := eq_true qx1
        have px2 : 0 ≤ (x5_1 : Int) := odA
        have qx2 : x5_1 < (l0.length : Int) := odA
        obtain ⟨adx2, ex2, hxx2⟩ := Kd.at_int (Kd.V_reads' HO_y1.out).2.2 x5_1 px2 qx2
        obtain rfl : adx1 = adx2 := (by injection ex2)
        replace px2 := eq_true px2
        replace qx2 := eq_true qx2
        go_wp2_with (first | ((with_reducible refine gate_builtin (b := .append) (xs := #[.tmp 18, .tmp 23]) rfl ?_); at_builtin; refine Kd.R_append (Kd.int .u8) (w0 := w) w.heap.size rfl (.tmp 18) (.tmp 23) 22 5 (.int .u8 0) 1 rfl Try.underlying22 info5 rfl (by decide) (by omega) u4 x4_1 (rd l0 x5_1) [.int .u8 (rd l0 x5_1)] (fun k_ => (w.heap.size ≤ k_)) (fun _ => False) rfl rfl ?aP (fun _ hk => hk.elim) ?aF ?aO ?aB ?aS ?aL ?_; (case aP => exact rfl); (case aB => exact (hX HB.out)); (case aF => exact (fun k_ hk => (Nat.le_trans (below_size (hX HB.out)) hk))); (case aO => exact (rX HO_y2.out)); (case aS => exact (below_size (hX HB.out))); (case aL => have := LMc20.out; omega); intro vx1 wx1 ho hb hg hat; rw [← Ny118.out] at ho; have HOx1 := aM (ho); replace HO_y1 := aM (Kd.V_afterv (ok := (fun k_ => (P0_ k_ ∨ w.heap.size ≤ k_))) (vX HO_y1.out) hg hat); replace HB := aM (hb); clear HO_y2; clear ho hb hg hat))
        repeat (go_quiet (fail); try go_wp2_with (first | ((with_reducible refine gate_builtin (b := .append) (xs := #[.tmp 18, .tmp 23]) rfl ?_); at_builtin; refine Kd.R_append (Kd.int .u8) (w0 := w) w.heap.size rfl (.tmp 18) (.tmp 23) 22 5 (.int .u8 0) 1 rfl Try.underlying22 info5 rfl (by decide) (by omega) u4 x4_1 (rd l0 x5_1) [.int .u8 (rd l0 x5_1)] (fun k_ => (w.heap.size ≤ k_)) (fun _ => False) rfl rfl ?aP (fun _ hk => hk.elim) ?aF ?aO ?aB ?aS ?aL ?_; (case aP => exact rfl); (case aB => exact (hX HB.out)); (case aF => exact (fun k_ hk => (Nat.le_trans (below_size (hX HB.out)) hk))); (case aO => exact (rX HO_y2.out)); (case aS => exact (below_size (hX HB.out))); (case aL => have := LMc20.out; omega); intro vx1 wx1 ho hb hg hat; rw [← Ny118.out] at ho; have HOx1 := aM (ho); replace HO_y1 := aM (Kd.V_afterv (ok := (fun k_ => (P0_ k_ ∨ w.heap.size ≤ k_))) (vX HO_y1.out) hg hat); replace HB := aM (hb); clear HO_y2; clear ho hb hg hat)))
        go_roundg k1
        case measure => have := HKy1.out; omega
        case rel => exact ⟨(y118), (wrap64 (x5_1 + 1)), rS, H', ⟨by have := HKy1.out; omega⟩, ⟨(vX HO_y1.out)⟩, ⟨(rX HOx1.out)⟩, ⟨(hX HB.out)⟩⟩
      rw [if_pos c6] at H
      obtain ⟨c6b0, c6b1⟩ := eqT c6
      clear c6
      by_cases c7 : (wrap64 (x5_1 + 1)) < (l0.length : Int)
      case neg =>
        rw [if_neg c7] at H
        have c7b0 := decide_eq_false c7
        clear c7
        replace H := ifP H; obtain ⟨c18, H⟩ := H
        have LMc18 := aM c18
        clear c18
        obtain ⟨y114, hy114⟩ : ∃ y_ : List Int, y_ = (x4_1 ++ [0]) := ⟨_, rfl⟩
        replace H : (impl_takeText.l0 k1 l0 y114 (wrap64 ((wrap64 (x5_1 + 1)) + 1))) = some (r1, r2) := yH H hy114
        have Ny114 := aM hy114
        clear hy114
        have H' := aM H
        clear H
        have px1 : 0 ≤ (x5_1 : Int) := odA
        have qx1 : x5_1 < (l0.length : Int) := odA
        obtain ⟨adx1, ex1, hxx1⟩ := Kd.at_int (Kd.V_reads' HO_y1.out).2.2 x5_1 px1 qx1
        cases ex1
        replace px1 := eq_true px1
        replace qx1 := eq_true qx1
        go_wp2_with (first | ((with_reducible refine gate_builtin (b := .append) (xs := #[.tmp 44, .tmp 45]) rfl ?_); at_builtin; refine Kd.R_append (Kd.int .u8) (w0 := w) w.heap.size rfl (.tmp 44) (.tmp 45) 22 5 (.int .u8 0) 1 rfl Try.underlying22 info5 rfl (by decide) (by omega) u4 x4_1 0 [.int .u8 0] (fun k_ => (w.heap.size ≤ k_)) (fun _ => False) rfl rfl ?aP (fun _ hk => hk.elim) ?aF ?aO ?aB ?aS ?aL ?_; (case aP => exact rfl); (case aB => exact (hX HB.out)); (case aF => exact (fun k_ hk => (Nat.le_trans (below_size (hX HB.out)) hk))); (case aO => exact (rX HO_y2.out)); (case aS => exact (below_size (hX HB.out))); (case aL => have := LMc18.out; omega); intro vx1 wx1 ho hb hg hat; rw [← Ny114.out] at ho; have HOx1 := aM (ho); replace HO_y1 := aM (Kd.V_afterv (ok := (fun k_ => (P0_ k_ ∨ w.heap.size ≤ k_))) (vX HO_y1.out) hg hat); replace HB := aM (hb); clear HO_y2; clear ho hb hg hat))
        repeat (go_quiet (fail); try go_wp2_with (first | ((with_reducible refine gate_builtin (b := .append) (xs := #[.tmp 44, .tmp 45]) rfl ?_); at_builtin; refine Kd.R_append (Kd.int .u8) (w0 := w) w.heap.size rfl (.tmp 44) (.tmp 45) 22 5 (.int .u8 0) 1 rfl Try.underlying22 info5 rfl (by decide) (by omega) u4 x4_1 0 [.int .u8 0] (fun k_ => (w.heap.size ≤ k_)) (fun _ => False) rfl rfl ?aP (fun _ hk => hk.elim) ?aF ?aO ?aB ?aS ?aL ?_; (case aP => exact rfl); (case aB => exact (hX HB.out)); (case aF => exact (fun k_ hk => (Nat.le_trans (below_size (hX HB.out)) hk))); (case aO => exact (rX HO_y2.out)); (case aS => exact (below_size (hX HB.out))); (case aL => have := LMc18.out; omega); intro vx1 wx1 ho hb hg hat; rw [← Ny114.out] at ho; have HOx1 := aM (ho); replace HO_y1 := aM (Kd.V_afterv (ok := (fun k_ => (P0_ k_ ∨ w.heap.size ≤ k_))) (vX HO_y1.out) hg hat); replace HB := aM (hb); clear HO_y2; clear ho hb hg hat)))
        go_roundg k1
        case measure => have := HKy1.out; omega
        case rel => exact ⟨(y114), (wrap64 ((wrap64 (x5_1 + 1)) + 1)), rS, H', ⟨by have := HKy1.out; omega⟩, ⟨(vX HO_y1.out)⟩, ⟨(rX HOx1.out)⟩, ⟨(hX HB.out)⟩⟩
      rw [if_pos c7] at H
      have c7b0 := decide_eq_true c7
      clear c7
      obtain ⟨ji8, hji8⟩ : ∃ j_ : Int, (wrap64 (x5_1 + 1)) = j_ := ⟨_, rfl⟩
      replace H : (if 0 ≤ (ji8) then (if (rd l0 (ji8)) = 1 then (if 0 ≤ (wrap64 (x5_1 + 2)) then (if (wrap64 (x5_1 + 2)) ≤ (l0.length : Int) then (some (strOfNums x4_1, (l0.drop ((wrap64 (x5_1 + 2)) : Int).toNat))) else (none)) else (none)) else (if x4_1.length < 140737488355328 then (impl_takeText.l0 k1 l0 (x4_1 ++ [0]) (wrap64 ((ji8) + 1))) else (none))) else (none)) = some (r1, r2) := by first | (rw [hji8] at H; exact H) | (simp only [hji8] at H ⊢; exact H)
      (try rw [hji8] at c7b0)
      have hji8w : (IntKind.i64.wrap (x5_1 + 1)) = ji8 := (i64_w _).trans hji8
      replace H := ifP H; obtain ⟨c9, H⟩ := H
      have c9b0 := decide_eq_true c9
      clear c9
      by_cases c10 : (rd l0 (ji8)) = 1
      case neg =>
        rw [if_neg c10] at H
        obtain ⟨c10b0, c10b1⟩ := eqF c10
        replace H := ifP H; obtain ⟨c16, H⟩ := H
        have LMc16 := aM c16
        clear c16
        obtain ⟨y111, hy111⟩ : ∃ y_ : List Int, y_ = (x4_1 ++ [0]) := ⟨_, rfl⟩
        replace H : (impl_takeText.l0 k1 l0 y111 (wrap64 ((ji8) + 1))) = some (r1, r2) := yH H hy111
        have Ny111 := aM hy111
        clear hy111
        have H' := aM H
        clear H
        have px1 : 0 ≤ (x5_1 : Int) := odA
        have qx1 : x5_1 < (l0.length : Int) := odA
        obtain ⟨adx1, ex1, hxx1⟩ := Kd.at_int (Kd.V_reads' HO_y1.out).2.2 x5_1 px1 qx1
        cases ex1
        replace px1 := eq_true px1
        replace qx1 := eq_true qx1
        have px2 : 0 ≤ ((ji8) : Int) := odA
        have qx2 : (ji8) < (l0.length : Int) := odA
        obtain ⟨adx2, ex2, hxx2⟩ := Kd.at_int (Kd.V_reads' HO_y1.out).2.2 (ji8) px2 qx2
        obtain rfl : adx1 = adx2 := (by injection ex2)
        replace px2 := eq_true px2
        replace qx2 := eq_true qx2
        go_wp2_with (first | ((with_reducible refine gate_builtin (b := .append) (xs := #[.tmp 44, .tmp 45]) rfl ?_); at_builtin; refine Kd.R_append (Kd.int .u8) (w0 := w) w.heap.size rfl (.tmp 44) (.tmp 45) 22 5 (.int .u8 0) 1 rfl Try.underlying22 info5 rfl (by decide) (by omega) u4 x4_1 0 [.int .u8 0] (fun k_ => (w.heap.size ≤ k_)) (fun _ => False) rfl rfl ?aP (fun _ hk => hk.elim) ?aF ?aO ?aB ?aS ?aL ?_; (case aP => exact rfl); (case aB => exact (hX HB.out)); (case aF => exact (fun k_ hk => (Nat.le_trans (below_size (hX HB.out)) hk))); (case aO => exact (rX HO_y2.out)); (case aS => exact (below_size (hX HB.out))); (case aL => have := LMc16.out; omega); intro vx1 wx1 ho hb hg hat; rw [← Ny111.out] at ho; have HOx1 := aM (ho); replace HO_y1 := aM (Kd.V_afterv (ok := (fun k_ => (P0_ k_ ∨ w.heap.size ≤ k_))) (vX HO_y1.out) hg hat); replace HB := aM (hb); clear HO_y2; clear ho hb hg hat))
        repeat (go_quiet (fail); try go_wp2_with (first | ((with_reducible refine gate_builtin (b := .append) (xs := #[.tmp 44, .tmp 45]) rfl ?_); at_builtin; refine Kd.R_append (Kd.int .u8) (w0 := w) w.heap.size rfl (.tmp 44) (.tmp 45) 22 5 (.int .u8 0) 1 rfl Try.underlying22 info5 rfl (by decide) (by omega) u4 x4_1 0 [.int .u8 0] (fun k_ => (w.heap.size ≤ k_)) (fun _ => False) rfl rfl ?aP (fun _ hk => hk.elim) ?aF ?aO ?aB ?aS ?aL ?_; (case aP => exact rfl); (case aB => exact (hX HB.out)); (case aF => exact (fun k_ hk => (Nat.le_trans (below_size (hX HB.out)) hk))); (case aO => exact (rX HO_y2.out)); (case aS => exact (below_size (hX HB.out))); (case aL => have := LMc16.out; omega); intro vx1 wx1 ho hb hg hat; rw [← Ny111.out] at ho; have HOx1 := aM (ho); replace HO_y1 := aM (Kd.V_afterv (ok := (fun k_ => (P0_ k_ ∨ w.heap.size ≤ k_))) (vX HO_y1.out) hg hat); replace HB := aM (hb); clear HO_y2; clear ho hb hg hat)))
        go_roundg k1
        case measure => have := HKy1.out; omega
        case rel => exact ⟨(y111), (wrap64 ((ji8) + 1)), (by first | rfl | (simp; done) | (simp only [← hji8] <;> (first | rfl | simp)) | (simp [*]; done)), H', ⟨by have := HKy1.out; omega⟩, ⟨(vX HO_y1.out)⟩, ⟨(rX HOx1.out)⟩, ⟨(hX HB.out)⟩⟩
      rw [if_pos c10] at H
      obtain ⟨c10b0, c10b1⟩ := eqT c10
      clear c10
      obtain ⟨ji11, hji11⟩ : ∃ j_ : Int, (wrap64 (x5_1 + 2)) = j_ := ⟨_, rfl⟩
      replace H : (if 0 ≤ (ji11) then (if (ji11) ≤ (l0.length : Int) then (some (strOfNums x4_1, (l0.drop ((ji11) : Int).toNat))) else (none)) else (none)) = some (r1, r2) := by first | (rw [hji11] at H; exact H) | (simp only [hji11] at H ⊢; exact H)
      have hji11w : (IntKind.i64.wrap (x5_1 + 2)) = ji11 := (i64_w _).trans hji11
      replace H := ifP H; obtain ⟨c12, H⟩ := H
      have c12b0 := eq_true c12
      have c12b1 := decide_eq_true c12
      clear c12
      replace H := ifP H; obtain ⟨c13, H⟩ := H
      have c13b0 := eq_true c13
      have c13b1 := decide_eq_true c13
      clear c13
      obtain ⟨y106, hy106⟩ : ∃ y_ : List Int, y_ = (l0.drop ((ji11) : Int).toNat) := ⟨_, rfl⟩
      replace H : (some (strOfNums x4_1, y106)) = some (r1, r2) := yH H hy106
      have Ny106 := aM hy106
      clear hy106
      simp only [Option.some.injEq, Prod.mk.injEq] at H
      obtain ⟨rfl, rfl⟩ := H
      have px1 : 0 ≤ (x5_1 : Int) := odA
      have qx1 : x5_1 < (l0.length : Int) := odA
      obtain ⟨adx1, ex1, hxx1⟩ := Kd.at_int (Kd.V_reads' HO_y1.out).2.2 x5_1 px1 qx1
      cases ex1
      replace px1 := eq_true px1
      replace qx1 := eq_true qx1
      have px2 : 0 ≤ ((ji8) : Int) := odA
      have qx2 : (ji8) < (l0.length : Int) := odA
      obtain ⟨adx2, ex2, hxx2⟩ := Kd.at_int (Kd.V_reads' HO_y1.out).2.2 (ji8) px2 qx2
      obtain rfl : adx1 = adx2 := (by injection ex2)
      replace px2 := eq_true px2
      replace qx2 := eq_true qx2
      have hcvx1 := own_string (P := Try.prog) Try.underlying22 Try.underlying5 Try.underlying9 (Kd.own_of_R HO_y2.out)
      have hcvqx1 := fun (n_ : Nat) => own_string (P := Try.prog) Try.underlying22 Try.underlying5 Try.underlying9 (pw_own_drewN (Kd.own_of_R HO_y2.out) n_)
      have qx3 : ((ji11) : Int) ≤ ((l0.length : Int) : Int) := odA
      obtain ⟨ix1, hix1, _, hszx1, _⟩ := info_parts info5
      have hroomx1 : l0.length ≤ c0 := (Kd.V_reads' HO_y1.out).2.1
      have hCx1 : Kd.F (Kd.int .u8) _ _ (some adx1) l0.length l0 := (Kd.V_at (base := w.heap.size) HO_y1.out).2.2
      have qx4 : (0 : Int) ≤ ((ji11) : Int) := odA
      have hcutx1 := cut_from (P := Try.prog) 22 5 .i64 Try.underlying22 hix1 1 hszx1 (some adx1) l0.length c0 (ji11) qx4 qx3
      have hrx1 := Kd.F_cut (m := ((ji11) : Int).toNat) (c := c0) hCx1 (by omega) hroomx1
      obtain ⟨Ax1, hAx1⟩ : ∃ A1, A1 = (if c0 = ((ji11) : Int).toNat then (some adx1) else ((some adx1) : Option Addr).map (·.add (((ji11) : Int).toNat * 1))) := ⟨_, rfl⟩
      obtain ⟨cx1, hcx1⟩ : ∃ c1, c1 = c0 - ((ji11) : Int).toNat := ⟨_, rfl⟩
      have hyx1 : y106.length = l0.length - ((ji11) : Int).toNat := (by rw [Ny106.out, List.length_drop] <;> omega)
      rw [show (l0).drop ((ji11) : Int).toNat = y106 from Ny106.out.symm] at hrx1
      replace hrx1 : Kd.F (Kd.int .u8) _ _ Ax1 y106.length y106 := (by rw [hAx1]; exact hrx1)
      rw [← hyx1, ← hAx1, ← hcx1] at hcutx1
      have HOx1 := aM (show Kd.V (Kd.int .u8) 5 _ w.heap.size _ (.slice Ax1 y106.length cx1) y106 from Kd.V_mk (by rw [hyx1, hcx1]; exact Nat.sub_le_sub_right hroomx1 _) hrx1)
      have HCx1 := aM (show y106.length ≤ cx1 from by rw [hyx1, hcx1]; exact Nat.sub_le_sub_right hroomx1 _)
      clear hrx1 hCx1 hroomx1 hix1 hszx1 hcx1
      have KYx1 := aM hyx1
      have KAx1 := aM hAx1
      clear hyx1 hAx1
      replace qx3 := eq_true qx3
      go_wp2
      repeat (go_quiet (fail); try go_wp2)
      go_ret2
      exact ⟨_, by first | rfl | (simp [errW_none, errW_some] <;> rfl) | (simp only [← hji8, ← hji11]; first | rfl | (simp [errW_none, errW_some] <;> rfl)) | (simp [*, errW_none, errW_some] <;> rfl), (vT (h := by exact Kd.V_mono HOx1.out (fun _ hk => hk.1))), (hX HB.out)⟩
end Go.Proofs.Ytcedikpkbgofhaa.P2
namespace Go.Proofs.Ytcedikpkbgofhaa.P2
open Go.RowKit Go.Proofs.YtcedikpkbgofhaaW.PrintWords Go.Proofs.YtcedikpkbgofhaaW.PrintLast Go.Proofs.YtcedikpkbgofhaaW.PrintMore
attribute [local go_sem] max2_int min2_int max_two min_two max_three min_three max_four min_four   -- for this text's walks alone
mutual
def impl_takeValue.j0 : Nat → List Int → Bool → Int → Int → ByteArray → Option (Int × Int × ByteArray × List Int)
  | 0, _, _, _, _, _ => none
  | k + 1, x0, x16, x104000, x104001, x104002 => if x16 = true then (if 0 < (x0.length : Int) then (if 1 ≤ (x0.length : Int) then (some (x104000, wrap64 (rd x0 0), x104002, (x0.drop 1))) else (none)) else (none)) else (if x104000 = 2 then (impl_takeValue.j1 k x0 (decide ((x0.length : Int) ≥ 8)) x104000 x104001 x104002) else (impl_takeValue.j1 k x0 false x104000 x104001 x104002))
def impl_takeValue.j1 : Nat → List Int → Bool → Int → Int → ByteArray → Option (Int × Int × ByteArray × List Int)
  | 0, _, _, _, _, _ => none
  | k + 1, x0, x32, x104000, x104001, x104002 => if x32 = true then (if 8 ≤ (x0.length : Int) then ((some (x0.take 8 : List Int)).bind fun y115 => (impl_takeValue.l0 k x0 0 y115 (y115.length : Int) 0 x104000 x104001 x104002)) else (none)) else (if x104000 = 3 then ((impl_takeText.f k x0).bind fun bt126 => (some (x104000, x104001, bt126.1, bt126.2))) else (some (x104000, x104001, x104002, x0)))
def impl_takeValue.l0 : Nat → List Int → Int → List Int → Int → Int → Int → Int → ByteArray → Option (Int × Int × ByteArray × List Int)
  | 0, _, _, _, _, _, _, _, _ => none
  | k + 1, x0, x5, x42, x43, x44, x104000, x104001, x104002 => if x44 < x43 then (if 0 ≤ x44 then (if x44 < (x42.length : Int) then (impl_takeValue.l0 k x0 (Go.bits .or .u64 (IntKind.u64.wrap (x5 * 256)) (IntKind.u64.wrap (rd x42 x44))) x42 x43 (wrap64 (x44 + 1)) x104000 x104001 x104002) else (none)) else (none)) else (if 8 ≤ (x0.length : Int) then (some (x104000, wrap64 ((wrap64 (x5)) - 4611686018427387904), x104002, (x0.drop 8))) else (none))
end
def impl_takeValue.f (k : Nat) (l0 : List Int) : Option (Int × Int × ByteArray × List Int) := if 0 < (l0.length : Int) then (if 1 ≤ (l0.length : Int) then ((some (l0.drop 1 : List Int)).bind fun y104 => (if (wrap64 ((wrap64 (rd l0 0)) - 1)) = 1 then (impl_takeValue.j0 k y104 (decide ((y104.length : Int) > 0)) (wrap64 ((wrap64 (rd l0 0)) - 1)) 0 (⟨#[]⟩ : ByteArray)) else (impl_takeValue.j0 k y104 false (wrap64 ((wrap64 (rd l0 0)) - 1)) 0 (⟨#[]⟩ : ByteArray)))) else (none)) else (none)
set_option maxHeartbeats 8000000 in
set_option maxRecDepth 100000 in
theorem impl_takeValue.calls (k : Nat) (P0_ : Nat → Prop) (A0 : Option Addr) (c0 : Nat) (l0 : List Int) (r1 : Int) (r2 : Int) (r3 : ByteArray) (r4 : List Int) (w : World) (hs0 : Kd.V (Kd.int .u8) 5 w w.heap.size (fun k_ => P0_ k_) (.slice A0 l0.length c0) l0) (h : impl_takeValue.f k l0 = some (r1, r2, r3, r4)) :
    Calls Try.prog 74 #[.slice A0 l0.length c0] w fun e w' => ∃ v3_ : Value, e = .returned (.tuple #[.agg #[.int .i64 r1, .int .i64 r2, .string r3], v3_]) ∧ Kd.V (Kd.int .u8) 5 w' w.heap.size (fun k_ => (P0_ k_ ∨ w.heap.size ≤ k_)) v3_ r4 ∧ Below w.heap.size w w' := by
  have hu37 := Try.underlying37
  have HO0 := Aside0.mk (show Kd.V (Kd.int .u8) 5 w w.heap.size (fun k_ => (P0_ k_ ∨ w.heap.size ≤ k_)) (.slice A0 l0.length c0) l0 from Kd.V_mono hs0 (fun k_ hk => .inl hk))
  have HB := Aside0.mk (Below.refl w.heap.size w)
  have H : (if 0 < (l0.length : Int) then (if 1 ≤ (l0.length : Int) then ((some (l0.drop 1 : List Int)).bind fun y104 => (if (wrap64 ((wrap64 (rd l0 0)) - 1)) = 1 then (impl_takeValue.j0 k y104 (decide ((y104.length : Int) > 0)) (wrap64 ((wrap64 (rd l0 0)) - 1)) 0 (⟨#[]⟩ : ByteArray)) else (impl_takeValue.j0 k y104 false (wrap64 ((wrap64 (rd l0 0)) - 1)) 0 (⟨#[]⟩ : ByteArray)))) else (none)) else (none)) = some (r1, r2, r3, r4) := h
  clear h
  by_cases c2 : 0 < (l0.length : Int)
  · rw [if_pos c2] at H
    have c2b0 : decide (0 < (l0.length : Int)) = true := decide_eq_true c2
    have c2b1 : decide (0 < l0.length) = true := decide_eq_true (by omega)
    clear c2
    by_cases c3 : 1 ≤ (l0.length : Int)
    · rw [if_pos c3] at H
      have c3b0 := eq_true c3
      have c3b1 : decide (1 ≤ (l0.length : Int)) = true := decide_eq_true c3
      clear c3
      obtain ⟨y104, hy104⟩ : ∃ y_ : List Int, y_ = (l0.drop 1) := ⟨_, rfl⟩
      replace H : (if (wrap64 ((wrap64 (rd l0 0)) - 1)) = 1 then (impl_takeValue.j0 k y104 (decide ((y104.length : Int) > 0)) (wrap64 ((wrap64 (rd l0 0)) - 1)) 0 (⟨#[]⟩ : ByteArray)) else (impl_takeValue.j0 k y104 false (wrap64 ((wrap64 (rd l0 0)) - 1)) 0 (⟨#[]⟩ : ByteArray))) = some (r1, r2, r3, r4) := by first | (rw [hy104]; with_reducible exact H) | (have H2_ := (Option.bind_some _ _).symm.trans H; rw [hy104]; with_reducible exact H2_) | (have H2_ := (Option.bind_some _ _).symm.trans H; with_reducible exact H2_) | with_reducible exact H | (rw [hy104]; exact H) | exact H
      have Ny104 := Aside0.mk hy104
      clear hy104
      have HC4 := Aside0.mk H
      clear H
      go_enter Try.func74, Try.ntmps74
      go_upto_region 3 with (first | ((with_reducible refine gate_dst (N := 2) rfl ?_); (try (refine gate_guard (by rfl) ?_; dsimp only)); refine box_event ?hg (N := 2) ?hd (cs := #[.int .i64 0, .int .i64 0, .string (⟨#[]⟩ : ByteArray)]) (t := 37) ?hr ?_; (case hd => rfl); (case hg => rfl); (case hr => first | (go_simp; done) | (go_simp; rfl)); intro gb101 hg w5 hbox hb; have n0_ := Aside0.mk (Kd.V_below (Kd.V_elderB (by (with_reducible repeat (first | apply Kd.V_alloc | apply Kd.V_drewN | apply Kd.V_drew)); exact HO0.out) gb101 (Nat.le_of_eq hg.symm)) hb); have n1_ := Aside0.mk (below_step (by repeat (first | (with_reducible first | exact HB.out | apply below_alloc | apply pw_below_drewN | apply below_drew1) | exact HB.out)) hb); have n2_ := Aside0.mk (hbox); have n3_ := Aside0.mk ((by rw [hg]; exact (below_size (by repeat (first | (with_reducible first | exact HB.out | apply below_alloc | apply pw_below_drewN | apply below_drew1) | exact HB.out))) : w.heap.size ≤ gb101)); have n4_ := Aside0.mk ((by rw [hg]; exact (below_size (by repeat (first | (with_reducible first | exact HB.out | apply below_alloc | apply pw_below_drewN | apply below_drew1) | exact HB.out))) : w.heap.size ≤ gb101)); clear HO0; clear HB; have HO0 := n0_; have HB := n1_; have BK101 := n2_; have GW101 := n3_; have GE101 := n4_; clear n0_ n1_ n2_ n3_ n4_; clear hb hbox hg; have p102 : 0 ≤ (0 : Int) := (by omega); have q102 : 0 < (l0.length : Int) := of_decide_eq_true (by first | (with_reducible assumption) | assumption); obtain ⟨ad102, e102, hx102_0⟩ := Kd.at_int (Kd.V_reads' HO0.out).2.2 0 p102 q102; cases e102; have qi102 : (0 < l0.length) = True := eq_true (by omega); (try rw [show ((0 : Int)).toNat = 0 from rfl] at hx102_0); (try rw [Addr.add_zero'] at hx102_0); replace p102 := eq_true p102; replace q102 := eq_true q102) | ((with_reducible refine gate_dst (N := 4) rfl ?_); (try (refine gate_guard (by rfl) ?_; dsimp only)); refine box_event ?hg (N := 4) ?hd (cs := #[.int .i64 0, .int .i64 0, .string (⟨#[]⟩ : ByteArray)]) (t := 37) ?hr ?_; (case hd => rfl); (case hg => rfl); (case hr => first | (go_simp; done) | (go_simp; rfl)); intro gb103 hg w6 hbox hb; have n0_ := Aside0.mk (Kd.V_below (Kd.V_elderB (by (with_reducible repeat (first | apply Kd.V_alloc | apply Kd.V_drewN | apply Kd.V_drew)); exact HO0.out) gb103 (Nat.le_of_eq hg.symm)) hb); have n1_ := Aside0.mk (blk_below (g := gb101) (o := .cells #[.int .i64 0, .int .i64 0, .string (⟨#[]⟩ : ByteArray)] 37 (0, 0)) (by (with_reducible repeat (first | refine blk_drewN ?_ _ | refine blk_drew ?_ | refine blk_alloc ?_ _)); exact BK101.out) hb); have n2_ := Aside0.mk (below_step (by repeat (first | (with_reducible first | exact HB.out | apply below_alloc | apply pw_below_drewN | apply below_drew1 | refine below_set ?_ GE101.out) | exact HB.out)) hb); have n3_ := Aside0.mk (hbox); have n4_ := Aside0.mk ((by rw [hg]; exact (below_size (by repeat (first | (with_reducible first | exact HB.out | apply below_alloc | apply pw_below_drewN | apply below_drew1 | refine below_set ?_ GE101.out) | exact HB.out))) : w.heap.size ≤ gb103)); have n5_ := Aside0.mk ((by rw [hg]; exact (below_size (by repeat (first | (with_reducible first | exact HB.out | apply below_alloc | apply pw_below_drewN | apply below_drew1 | refine below_set ?_ GE101.out) | exact HB.out))) : w.heap.size ≤ gb103)); have n6_ := Aside0.mk ((by rw [hg]; exact Nat.ne_of_lt (blk_lt (g := gb101) (o := .cells #[.int .i64 0, .int .i64 0, .string (⟨#[]⟩ : ByteArray)] 37 (0, 0)) (by (with_reducible repeat (first | refine blk_drewN ?_ _ | refine blk_drew ?_ | refine blk_alloc ?_ _)); exact BK101.out)) : gb101 ≠ gb103)); have n7_ := Aside0.mk ((by rw [hg]; exact Nat.ne_of_gt (blk_lt (g := gb101) (o := .cells #[.int .i64 0, .int .i64 0, .string (⟨#[]⟩ : ByteArray)] 37 (0, 0)) (by (with_reducible repeat (first | refine blk_drewN ?_ _ | refine blk_drew ?_ | refine blk_alloc ?_ _)); exact BK101.out)) : gb103 ≠ gb101)); clear HO0; clear BK101; clear HB; have HO0 := n0_; have BK101 := n1_; have HB := n2_; have BK103 := n3_; have GW103 := n4_; have GE103 := n5_; have NB101_103 := n6_; have NB103_101 := n7_; clear n0_ n1_ n2_ n3_ n4_ n5_ n6_ n7_; clear hb hbox hg; have hnb7 := NB103_101.out; have hnc7 := NB101_103.out; have hcz8_0 : w6.cell? ⟨gb103, 0, none⟩ = some (.int .i64 0) := (blk_cell BK103.out 0).trans rfl; have hcz8_1 : w6.cell? ⟨gb103, 1, none⟩ = some (.int .i64 0) := (blk_cell BK103.out 1).trans rfl; have hcz8_2 : w6.cell? ⟨gb103, 2, none⟩ = some (.string (⟨#[]⟩ : ByteArray)) := (blk_cell BK103.out 2).trans rfl; have hfz8_0 := blk_frozen BK103.out 0; have hfz8_1 := blk_frozen BK103.out 1; have hfz8_2 := blk_frozen BK103.out 2) | ((with_reducible refine gate_store (t := 37) (p := 4) rfl ?_); refine store_event (t := 37) (p := 4) (v := ?vo_w9) (w1 := (((w6.setCell ⟨gb103, 0, none⟩ (.int .i64 (wrap64 ((wrap64 (rd l0 0)) - 1)))).setCell ⟨gb103, 1, none⟩ (.int .i64 0)).setCell ⟨gb103, 2, none⟩ (.string (⟨#[]⟩ : ByteArray)))) ?hg ?ho ?hn ?hr ?_; (case ho => rfl); (case hg => rfl); (case hn => rfl); (case hr => first | (go_simp; done) | (go_simp; rfl)); intro w9 hw; have n0_ : Aside0 (Kd.V (Kd.int .u8) 5 w9 w.heap.size (fun k_ => (P0_ k_ ∨ w.heap.size ≤ k_) ∧ k_ ≠ gb101 ∧ k_ ≠ gb103) (.slice (some ad102) l0.length c0) l0) := ⟨(by rw [hw]; exact (by (with_reducible repeat (first | apply Kd.V_alloc | apply Kd.V_drewN | apply Kd.V_drew)); exact Kd.V_mono (Kd.V_far (p := ⟨gb103, 2, none⟩) (Kd.V_far (p := ⟨gb103, 1, none⟩) (Kd.V_far (p := ⟨gb103, 0, none⟩) (Kd.V_mono HO0.out (fun k_ hk => (⟨hk, hk.2⟩ : _ ∧ k_ ≠ gb103))) (fun _ hk => hk.2) (.int .i64 (wrap64 ((wrap64 (rd l0 0)) - 1)))) (fun _ hk => hk.2) (.int .i64 0)) (fun _ hk => hk.2) (.string (⟨#[]⟩ : ByteArray))) (fun _ hk => ⟨hk.1.1.1, ⟨hk.1.1.2, hk.1.2⟩⟩)))⟩; have n1_ : Aside0 (w9.heap[gb101]? = some (.cells #[.int .i64 0, .int .i64 0, .string (⟨#[]⟩ : ByteArray)] 37 (0, 0))) := ⟨(by rw [hw]; exact (by (with_reducible repeat (first | refine blk_drewN ?_ _ | refine blk_drew ?_ | refine blk_alloc ?_ _)); refine blk_far ?_ NB101_103.out _; (with_reducible repeat (first | refine blk_drewN ?_ _ | refine blk_drew ?_ | refine blk_alloc ?_ _)); refine blk_far ?_ NB101_103.out _; (with_reducible repeat (first | refine blk_drewN ?_ _ | refine blk_drew ?_ | refine blk_alloc ?_ _)); refine blk_far ?_ NB101_103.out _; (with_reducible repeat (first | refine blk_drewN ?_ _ | refine blk_drew ?_ | refine blk_alloc ?_ _)); exact BK101.out))⟩; have n2_ : Aside0 (w9.heap[gb103]? = some (.cells #[.int .i64 (wrap64 ((wrap64 (rd l0 0)) - 1)), .int .i64 0, .string (⟨#[]⟩ : ByteArray)] 37 (0, 0))) := ⟨(by rw [hw]; exact (by (with_reducible repeat (first | refine blk_drewN ?_ _ | refine blk_drew ?_ | refine blk_alloc ?_ _)); refine blk_put (cs := #[.int .i64 (wrap64 ((wrap64 (rd l0 0)) - 1)), .int .i64 0, .string (⟨#[]⟩ : ByteArray)]) ?_ 2 _ rfl; (with_reducible repeat (first | refine blk_drewN ?_ _ | refine blk_drew ?_ | refine blk_alloc ?_ _)); refine blk_put (cs := #[.int .i64 (wrap64 ((wrap64 (rd l0 0)) - 1)), .int .i64 0, .string (⟨#[]⟩ : ByteArray)]) ?_ 1 _ rfl; (with_reducible repeat (first | refine blk_drewN ?_ _ | refine blk_drew ?_ | refine blk_alloc ?_ _)); refine blk_put (cs := #[.int .i64 0, .int .i64 0, .string (⟨#[]⟩ : ByteArray)]) ?_ 0 _ rfl; (with_reducible repeat (first | refine blk_drewN ?_ _ | refine blk_drew ?_ | refine blk_alloc ?_ _)); exact BK103.out))⟩; have n3_ : Aside0 (Below w.heap.size w w9) := ⟨(by rw [hw]; exact (by repeat (first | (with_reducible first | exact HB.out | apply below_alloc | apply pw_below_drewN | apply below_drew1 | refine below_set ?_ GE101.out | refine below_set ?_ GE103.out) | exact HB.out)))⟩; clear hw; clear HO0; clear BK101; clear BK103; clear HB; have HO0 := n0_; have BK101 := n1_; have BK103 := n2_; have HB := n3_; clear n0_ n1_ n2_ n3_; have q10 : (1 : Int) ≤ ((l0.length : Int) : Int) := of_decide_eq_true (by first | (with_reducible assumption) | assumption); obtain ⟨i010, hi010, _, hsz10, _⟩ := info_parts info5; have hroom10 : l0.length ≤ c0 := (Kd.V_reads' HO0.out).2.1; have hC10 : Kd.F (Kd.int .u8) _ _ (some ad102) l0.length l0 := (Kd.V_at (base := w.heap.size) HO0.out).2.2; have hcut10 := cut_from (P := Try.prog) 22 5 .i64 Try.underlying22 hi010 1 hsz10 (some ad102) l0.length c0 1 (by omega) q10; have hr10 := Kd.F_cut (m := (1 : Int).toNat) (c := c0) hC10 (by omega) hroom10; obtain ⟨A10, hA10⟩ : ∃ A1, A1 = (if c0 = (1 : Int).toNat then (some ad102) else ((some ad102) : Option Addr).map (·.add ((1 : Int).toNat * 1))) := ⟨_, rfl⟩; obtain ⟨c10, hc10⟩ : ∃ c1, c1 = c0 - (1 : Int).toNat := ⟨_, rfl⟩; have hy10 : y104.length = l0.length - (1 : Int).toNat := (by rw [Ny104.out, List.length_drop] <;> omega); rw [show (l0).drop (1 : Int).toNat = y104 from Ny104.out.symm] at hr10; replace hr10 : Kd.F (Kd.int .u8) _ _ A10 y104.length y104 := (by rw [hA10]; exact hr10); rw [← hy10, ← hA10, ← hc10] at hcut10; have HO108 := Aside0.mk (show Kd.V (Kd.int .u8) 5 _ w.heap.size _ (.slice A10 y104.length c10) y104 from Kd.V_mk (by rw [hy10, hc10]; exact Nat.sub_le_sub_right hroom10 _) hr10); have HC108 := Aside0.mk (show y104.length ≤ c10 from by rw [hy10, hc10]; exact Nat.sub_le_sub_right hroom10 _); clear hr10 hC10 hroom10 hi010 hsz10 hc10; have KY10 := Aside0.mk hy10; have KA10 := Aside0.mk hA10; clear hy10 hA10; replace q10 := eq_true q10))
      (try simp only [Act.put, List.setIfInBounds_toArray, List.set_cons_zero, List.set_cons_succ])
      go_cut [16] (fun v16 wc => ∃ (kq : Nat) (x16_3 : Bool), v16 = .bool x16_3 ∧ Aside0 (impl_takeValue.j0 kq y104 x16_3 (wrap64 ((wrap64 (rd l0 0)) - 1)) 0 (⟨#[]⟩ : ByteArray) = some (r1, r2, r3, r4)) ∧ Aside0 (kq ≤ k) ∧ Aside0 (Kd.V (Kd.int .u8) 5 wc w.heap.size (fun k_ => (P0_ k_ ∨ w.heap.size ≤ k_) ∧ k_ ≠ gb101 ∧ k_ ≠ gb103) (.slice A10 y104.length c10) y104) ∧ Aside0 (wc.heap[gb101]? = some (.cells #[.int .i64 0, .int .i64 0, .string (⟨#[]⟩ : ByteArray)] 37 (0, 0))) ∧ Aside0 (wc.heap[gb103]? = some (.cells #[.int .i64 (wrap64 ((wrap64 (rd l0 0)) - 1)), .int .i64 0, .string (⟨#[]⟩ : ByteArray)] 37 (0, 0))) ∧ Aside0 (Below w.heap.size w wc))
      case first =>
        have H := HC4.out
        clear HC4
        by_cases c11 : (wrap64 ((wrap64 (rd l0 0)) - 1)) = 1
        · rw [if_pos c11] at H
          have c11b0 : ((wrap64 ((wrap64 (rd l0 0)) - 1)) == 1) = true := beq_iff_eq.mpr c11
          have c11b1 : ((wrap64 ((wrap64 (rd l0 0)) - 1)) != 1) = false := bne_eq_false_iff_eq.mpr c11
          clear c11
          (first | rw [c11b0] | (simp only [i64_w, i32_w]; rw [c11b0]) | skip)
          have H' := Aside0.mk H
          clear H
          have hnb12 := NB103_101.out
          have hnc12 := NB101_103.out
          have hcz13_0 : w9.cell? ⟨gb103, 0, none⟩ = some (.int .i64 (wrap64 ((wrap64 (rd l0 0)) - 1))) := (blk_cell BK103.out 0).trans rfl
          have hcz13_1 : w9.cell? ⟨gb103, 1, none⟩ = some (.int .i64 0) := (blk_cell BK103.out 1).trans rfl
          have hcz13_2 : w9.cell? ⟨gb103, 2, none⟩ = some (.string (⟨#[]⟩ : ByteArray)) := (blk_cell BK103.out 2).trans rfl
          have hfz13_0 := blk_frozen BK103.out 0
          have hfz13_1 := blk_frozen BK103.out 1
          have hfz13_2 := blk_frozen BK103.out 2
          go_wp2
          go_meet
          case rel => exact ⟨_, (decide ((y104.length : Int) > 0)), (by first | rfl | (simp; done) | (simp [*]; done)), H', ⟨by first | omega | exact Nat.le_refl _⟩, ⟨by (with_reducible repeat (first | apply Kd.V_alloc | apply Kd.V_drewN | apply Kd.V_drew)); exact HO108.out⟩, ⟨by (with_reducible repeat (first | refine blk_drewN ?_ _ | refine blk_drew ?_ | refine blk_alloc ?_ _)); exact BK101.out⟩, ⟨by (with_reducible repeat (first | refine blk_drewN ?_ _ | refine blk_drew ?_ | refine blk_alloc ?_ _)); exact BK103.out⟩, ⟨by repeat (first | (with_reducible first | exact HB.out | apply below_alloc | apply pw_below_drewN | apply below_drew1 | refine below_set ?_ GE101.out | refine below_set ?_ GE103.out) | exact HB.out)⟩⟩
        · rw [if_neg c11] at H
          have c11b0 : ((wrap64 ((wrap64 (rd l0 0)) - 1)) == 1) = false := beq_eq_false_iff_ne.mpr c11
          have c11b1 : ((wrap64 ((wrap64 (rd l0 0)) - 1)) != 1) = true := bne_iff_ne.mpr c11
          (first | rw [c11b0] | (simp only [i64_w, i32_w]; rw [c11b0]) | skip)
          have H' := Aside0.mk H
          clear H
          have hnb14 := NB103_101.out
          have hnc14 := NB101_103.out
          have hcz15_0 : w9.cell? ⟨gb103, 0, none⟩ = some (.int .i64 (wrap64 ((wrap64 (rd l0 0)) - 1))) := (blk_cell BK103.out 0).trans rfl
          have hcz15_1 : w9.cell? ⟨gb103, 1, none⟩ = some (.int .i64 0) := (blk_cell BK103.out 1).trans rfl
          have hcz15_2 : w9.cell? ⟨gb103, 2, none⟩ = some (.string (⟨#[]⟩ : ByteArray)) := (blk_cell BK103.out 2).trans rfl
          have hfz15_0 := blk_frozen BK103.out 0
          have hfz15_1 := blk_frozen BK103.out 1
          have hfz15_2 := blk_frozen BK103.out 2
          go_wp2
          go_meet
          case rel => exact ⟨_, (false), (by first | rfl | (simp; done) | (simp [*]; done)), H', ⟨by first | omega | exact Nat.le_refl _⟩, ⟨by (with_reducible repeat (first | apply Kd.V_alloc | apply Kd.V_drewN | apply Kd.V_drew)); exact HO108.out⟩, ⟨by (with_reducible repeat (first | refine blk_drewN ?_ _ | refine blk_drew ?_ | refine blk_alloc ?_ _)); exact BK101.out⟩, ⟨by (with_reducible repeat (first | refine blk_drewN ?_ _ | refine blk_drew ?_ | refine blk_alloc ?_ _)); exact BK103.out⟩, ⟨by repeat (first | (with_reducible first | exact HB.out | apply below_alloc | apply pw_below_drewN | apply below_drew1 | refine below_set ?_ GE101.out | refine below_set ?_ GE103.out) | exact HB.out)⟩⟩
      case rest =>
        clear HC4
        try clear c1
        try clear p1
        try clear q1
        try clear hx1
        try clear qi1
        try clear c2
        try clear c2b0
        try clear c2b1
        try clear p2
        try clear c3
        try clear c3b0
        try clear c3b1
        try clear p6
        try clear c7
        try clear c10
        try clear p10
        try clear q10
        try clear hx10
        try clear qi10
        try clear c11
        try clear c11b0
        try clear c11b1
        try clear c12
        try clear c14
        try clear hcz13_0
        try clear hcz13_1
        try clear hcz13_2
        try clear hcz15_0
        try clear hcz15_1
        try clear hcz15_2
        try clear hcz8_0
        try clear hcz8_1
        try clear hcz8_2
        try clear hfz13_0
        try clear hfz13_1
        try clear hfz13_2
        try clear hfz15_0
        try clear hfz15_1
        try clear hfz15_2
        try clear hfz8_0
        try clear hfz8_1
        try clear hfz8_2
        try clear hx102_0
        try clear p102
        try clear q10
        try clear q102
        obtain ⟨kq, x16_3, rfl, HA, HJ3, HO_0, BK101, BK103, HB⟩ := hcut
        cases kq with
        | zero => exact absurd HA.out (by simp [impl_takeValue.j0])
        | succ kj3 =>
          have H := HA.out
          clear HA
          simp only [impl_takeValue.j0] at H
          by_cases c16 : x16_3 = true
          · subst c16
            have H1 : (if 0 < (y104.length : Int) then (if 1 ≤ (y104.length : Int) then (some ((wrap64 ((wrap64 (rd l0 0)) - 1)), wrap64 (rd y104 0), (⟨#[]⟩ : ByteArray), (y104.drop 1))) else (none)) else (none)) = some (r1, r2, r3, r4) := by rw [if_pos rfl] at H; exact H
            clear H
            have H := H1
            clear H1
            by_cases c17 : 0 < (y104.length : Int)
            · rw [if_pos c17] at H
              have c17b0 : decide (0 < (y104.length : Int)) = true := decide_eq_true c17
              have c17b1 : decide (0 < y104.length) = true := decide_eq_true (by omega)
              clear c17
              by_cases c18 : 1 ≤ (y104.length : Int)
              · rw [if_pos c18] at H
                have c18b0 := eq_true c18
                have c18b1 : decide (1 ≤ (y104.length : Int)) = true := decide_eq_true c18
                clear c18
                obtain ⟨y110, hy110⟩ : ∃ y_ : List Int, y_ = (y104.drop 1) := ⟨_, rfl⟩
                replace H : (some ((wrap64 ((wrap64 (rd l0 0)) - 1)), wrap64 (rd y104 0), (⟨#[]⟩ : ByteArray), y110)) = some (r1, r2, r3, r4) := by first | (rw [hy110]; with_reducible exact H) | (have H2_ := (Option.bind_some _ _).symm.trans H; rw [hy110]; with_reducible exact H2_) | (have H2_ := (Option.bind_some _ _).symm.trans H; with_reducible exact H2_) | with_reducible exact H | (rw [hy110]; exact H) | exact H
                have Ny110 := Aside0.mk hy110
                clear hy110
                simp only [Option.some.injEq, Prod.mk.injEq] at H
                obtain ⟨rfl, rfl, rfl, rfl⟩ := H
                have p109 : 0 ≤ (0 : Int) := (by omega)
                have q109 : 0 < (y104.length : Int) := of_decide_eq_true (by first | (with_reducible assumption) | assumption)
                obtain ⟨ad109, e109, hx109_0⟩ := Kd.at_int (Kd.V_reads' HO_0.out).2.2 0 p109 q109
                cases e109
                have qi109 : (0 < y104.length) = True := eq_true (by omega)
                (try rw [show ((0 : Int)).toNat = 0 from rfl] at hx109_0)
                (try rw [Addr.add_zero'] at hx109_0)
                replace p109 := eq_true p109
                replace q109 := eq_true q109
                have hnb19 := NB103_101.out
                have hnc19 := NB101_103.out
                have hcz20_0 : wc.cell? ⟨gb103, 0, none⟩ = some (.int .i64 (wrap64 ((wrap64 (rd l0 0)) - 1))) := (blk_cell BK103.out 0).trans rfl
                have hcz20_1 : wc.cell? ⟨gb103, 1, none⟩ = some (.int .i64 0) := (blk_cell BK103.out 1).trans rfl
                have hcz20_2 : wc.cell? ⟨gb103, 2, none⟩ = some (.string (⟨#[]⟩ : ByteArray)) := (blk_cell BK103.out 2).trans rfl
                have hfz20_0 := blk_frozen BK103.out 0
                have hfz20_1 := blk_frozen BK103.out 1
                have hfz20_2 := blk_frozen BK103.out 2
                go_wp2_with (first | ((with_reducible refine gate_store (t := 3) (p := 29) rfl ?_); refine store_event (t := 3) (p := 29) (v := ?vo_w21) (w1 := (wc.setCell ⟨gb103, 1, none⟩ (.int .i64 (wrap64 (rd y104 0))))) ?hg ?ho ?hn ?hr ?_; (case ho => rfl); (case hg => rfl); (case hn => rfl); (case hr => first | (go_simp; done) | (go_simp; rfl)); intro w21 hw; have n0_ : Aside0 (Kd.V (Kd.int .u8) 5 w21 w.heap.size (fun k_ => (P0_ k_ ∨ w.heap.size ≤ k_) ∧ k_ ≠ gb101 ∧ k_ ≠ gb103) (.slice (some ad109) y104.length c10) y104) := ⟨(by rw [hw]; exact (by (with_reducible repeat (first | apply Kd.V_alloc | apply Kd.V_drewN | apply Kd.V_drew)); exact Kd.V_mono (Kd.V_far (p := ⟨gb103, 1, none⟩) (Kd.V_mono HO_0.out (fun k_ hk => (⟨hk, hk.2.2⟩ : _ ∧ k_ ≠ gb103))) (fun _ hk => hk.2) (.int .i64 (wrap64 (rd y104 0)))) (fun _ hk => ⟨hk.1.1, ⟨hk.1.2.1, hk.1.2.2⟩⟩)))⟩; have n1_ : Aside0 (w21.heap[gb101]? = some (.cells #[.int .i64 0, .int .i64 0, .string (⟨#[]⟩ : ByteArray)] 37 (0, 0))) := ⟨(by rw [hw]; exact (by (with_reducible repeat (first | refine blk_drewN ?_ _ | refine blk_drew ?_ | refine blk_alloc ?_ _)); refine blk_far ?_ NB101_103.out _; (with_reducible repeat (first | refine blk_drewN ?_ _ | refine blk_drew ?_ | refine blk_alloc ?_ _)); exact BK101.out))⟩; have n2_ : Aside0 (w21.heap[gb103]? = some (.cells #[.int .i64 (wrap64 ((wrap64 (rd l0 0)) - 1)), .int .i64 (wrap64 (rd y104 0)), .string (⟨#[]⟩ : ByteArray)] 37 (0, 0))) := ⟨(by rw [hw]; exact (by (with_reducible repeat (first | refine blk_drewN ?_ _ | refine blk_drew ?_ | refine blk_alloc ?_ _)); refine blk_put (cs := #[.int .i64 (wrap64 ((wrap64 (rd l0 0)) - 1)), .int .i64 0, .string (⟨#[]⟩ : ByteArray)]) ?_ 1 _ rfl; (with_reducible repeat (first | refine blk_drewN ?_ _ | refine blk_drew ?_ | refine blk_alloc ?_ _)); exact BK103.out))⟩; have n3_ : Aside0 (Below w.heap.size w w21) := ⟨(by rw [hw]; exact (by repeat (first | (with_reducible first | exact HB.out | apply below_alloc | apply pw_below_drewN | apply below_drew1 | refine below_set ?_ GE101.out | refine below_set ?_ GE103.out) | exact HB.out)))⟩; clear hw; clear HO_0; clear BK101; clear BK103; clear HB; have HO_0 := n0_; have BK101 := n1_; have BK103 := n2_; have HB := n3_; clear n0_ n1_ n2_ n3_; have q22 : (1 : Int) ≤ ((y104.length : Int) : Int) := of_decide_eq_true (by first | (with_reducible assumption) | assumption); obtain ⟨i022, hi022, _, hsz22, _⟩ := info_parts info5; have hroom22 : y104.length ≤ c10 := (Kd.V_reads' HO_0.out).2.1; have hC22 : Kd.F (Kd.int .u8) _ _ (some ad109) y104.length y104 := (Kd.V_at (base := w.heap.size) HO_0.out).2.2; have hcut22 := cut_from (P := Try.prog) 22 5 .i64 Try.underlying22 hi022 1 hsz22 (some ad109) y104.length c10 1 (by omega) q22; have hr22 := Kd.F_cut (m := (1 : Int).toNat) (c := c10) hC22 (by omega) hroom22; obtain ⟨A22, hA22⟩ : ∃ A1, A1 = (if c10 = (1 : Int).toNat then (some ad109) else ((some ad109) : Option Addr).map (·.add ((1 : Int).toNat * 1))) := ⟨_, rfl⟩; obtain ⟨c22, hc22⟩ : ∃ c1, c1 = c10 - (1 : Int).toNat := ⟨_, rfl⟩; have hy22 : y110.length = y104.length - (1 : Int).toNat := (by rw [Ny110.out, List.length_drop] <;> omega); rw [show (y104).drop (1 : Int).toNat = y110 from Ny110.out.symm] at hr22; replace hr22 : Kd.F (Kd.int .u8) _ _ A22 y110.length y110 := (by rw [hA22]; exact hr22); rw [← hy22, ← hA22, ← hc22] at hcut22; have HO114 := Aside0.mk (show Kd.V (Kd.int .u8) 5 _ w.heap.size _ (.slice A22 y110.length c22) y110 from Kd.V_mk (by rw [hy22, hc22]; exact Nat.sub_le_sub_right hroom22 _) hr22); have HC114 := Aside0.mk (show y110.length ≤ c22 from by rw [hy22, hc22]; exact Nat.sub_le_sub_right hroom22 _); clear hr22 hC22 hroom22 hi022 hsz22 hc22; have KY22 := Aside0.mk hy22; have KA22 := Aside0.mk hA22; clear hy22 hA22; replace q22 := eq_true q22; have hcz23_0 : w21.cell? ⟨gb103, 0, none⟩ = some (.int .i64 (wrap64 ((wrap64 (rd l0 0)) - 1))) := (blk_cell BK103.out 0).trans rfl; have hcz23_1 : w21.cell? ⟨gb103, 1, none⟩ = some (.int .i64 (wrap64 (rd y104 0))) := (blk_cell BK103.out 1).trans rfl; have hcz23_2 : w21.cell? ⟨gb103, 2, none⟩ = some (.string (⟨#[]⟩ : ByteArray)) := (blk_cell BK103.out 2).trans rfl; have hfz23_0 := blk_frozen BK103.out 0; have hfz23_1 := blk_frozen BK103.out 1; have hfz23_2 := blk_frozen BK103.out 2; have hcz24_0 : w21.cell? ⟨gb101, 0, none⟩ = some (.int .i64 0) := (blk_cell BK101.out 0).trans rfl; have hcz24_1 : w21.cell? ⟨gb101, 1, none⟩ = some (.int .i64 0) := (blk_cell BK101.out 1).trans rfl; have hcz24_2 : w21.cell? ⟨gb101, 2, none⟩ = some (.string (⟨#[]⟩ : ByteArray)) := (blk_cell BK101.out 2).trans rfl; have hfz24_0 := blk_frozen BK101.out 0; have hfz24_1 := blk_frozen BK101.out 1; have hfz24_2 := blk_frozen BK101.out 2))
                refine bodyPost_ret (results_ct rfl _ _ gb101 37 #[.int .i64 (wrap64 ((wrap64 (rd l0 0)) - 1)), .int .i64 (wrap64 (rd y104 0)), .string (⟨#[]⟩ : ByteArray)] (0, 0) _ rfl (by (with_reducible repeat (first | refine blk_drewN ?_ _ | refine blk_drew ?_ | refine blk_alloc ?_ _)); refine blk_put (cs := #[.int .i64 (wrap64 ((wrap64 (rd l0 0)) - 1)), .int .i64 (wrap64 (rd y104 0)), .string (⟨#[]⟩ : ByteArray)]) ?_ 2 _ rfl; (with_reducible repeat (first | refine blk_drewN ?_ _ | refine blk_drew ?_ | refine blk_alloc ?_ _)); refine blk_put (cs := #[.int .i64 (wrap64 ((wrap64 (rd l0 0)) - 1)), .int .i64 0, .string (⟨#[]⟩ : ByteArray)]) ?_ 1 _ rfl; (with_reducible repeat (first | refine blk_drewN ?_ _ | refine blk_drew ?_ | refine blk_alloc ?_ _)); refine blk_put (cs := #[.int .i64 0, .int .i64 0, .string (⟨#[]⟩ : ByteArray)]) ?_ 0 _ rfl; (with_reducible repeat (first | refine blk_drewN ?_ _ | refine blk_drew ?_ | refine blk_alloc ?_ _)); exact BK101.out) Try.underlying37 rfl (by kernel_rfl)) rfl ?_
                exact ⟨_, by first | rfl | (simp [errW_none, errW_some] <;> rfl) | (simp [*, errW_none, errW_some] <;> rfl), by (with_reducible repeat (first | apply Kd.V_alloc | apply Kd.V_drewN | apply Kd.V_drew)); exact Kd.V_mono (Kd.V_far (p := ⟨gb101, 2, none⟩) (Kd.V_far (p := ⟨gb101, 1, none⟩) (Kd.V_far (p := ⟨gb101, 0, none⟩) (Kd.V_mono HO114.out (fun k_ hk => (⟨hk, hk.2.1⟩ : _ ∧ k_ ≠ gb101))) (fun _ hk => hk.2) (.int .i64 (wrap64 ((wrap64 (rd l0 0)) - 1)))) (fun _ hk => hk.2) (.int .i64 (wrap64 (rd y104 0)))) (fun _ hk => hk.2) (.string (⟨#[]⟩ : ByteArray))) (fun _ hk => hk.1.1), by repeat (first | (with_reducible first | exact HB.out | apply below_alloc | apply pw_below_drewN | apply below_drew1 | refine below_set ?_ GE101.out | refine below_set ?_ GE103.out) | exact HB.out)⟩
              · rw [if_neg c18] at H
                exact absurd H (by simp)
            · rw [if_neg c17] at H
              exact absurd H (by simp)
          · replace c16 := Bool.eq_false_iff.mpr c16
            subst c16
            have H1 : (if (wrap64 ((wrap64 (rd l0 0)) - 1)) = 2 then (impl_takeValue.j1 kj3 y104 (decide ((y104.length : Int) ≥ 8)) (wrap64 ((wrap64 (rd l0 0)) - 1)) 0 (⟨#[]⟩ : ByteArray)) else (impl_takeValue.j1 kj3 y104 false (wrap64 ((wrap64 (rd l0 0)) - 1)) 0 (⟨#[]⟩ : ByteArray))) = some (r1, r2, r3, r4) := by rw [if_neg (show ¬ (false = true) by decide)] at H; exact H
            clear H
            have H := H1
            clear H1
            have HC25 := Aside0.mk H
            clear H
            go_upto_region 6 with (fail)
            go_cut [32] (fun v32 wc => ∃ (kq : Nat) (x32_24 : Bool), v32 = .bool x32_24 ∧ Aside0 (impl_takeValue.j1 kq y104 x32_24 (wrap64 ((wrap64 (rd l0 0)) - 1)) 0 (⟨#[]⟩ : ByteArray) = some (r1, r2, r3, r4)) ∧ Aside0 (kq ≤ kj3) ∧ Aside0 (Kd.V (Kd.int .u8) 5 wc w.heap.size (fun k_ => (P0_ k_ ∨ w.heap.size ≤ k_) ∧ k_ ≠ gb101 ∧ k_ ≠ gb103) (.slice A10 y104.length c10) y104) ∧ Aside0 (wc.heap[gb101]? = some (.cells #[.int .i64 0, .int .i64 0, .string (⟨#[]⟩ : ByteArray)] 37 (0, 0))) ∧ Aside0 (wc.heap[gb103]? = some (.cells #[.int .i64 (wrap64 ((wrap64 (rd l0 0)) - 1)), .int .i64 0, .string (⟨#[]⟩ : ByteArray)] 37 (0, 0))) ∧ Aside0 (Below w.heap.size w wc))
            case first =>
              have H := HC25.out
              clear HC25
              by_cases c26 : (wrap64 ((wrap64 (rd l0 0)) - 1)) = 2
              · rw [if_pos c26] at H
                have c26b0 : ((wrap64 ((wrap64 (rd l0 0)) - 1)) == 2) = true := beq_iff_eq.mpr c26
                have c26b1 : ((wrap64 ((wrap64 (rd l0 0)) - 1)) != 2) = false := bne_eq_false_iff_eq.mpr c26
                clear c26
                (first | rw [c26b0] | (simp only [i64_w, i32_w]; rw [c26b0]) | skip)
                have H' := Aside0.mk H
                clear H
                have hnb27 := NB103_101.out
                have hnc27 := NB101_103.out
                have hcz28_0 : wc.cell? ⟨gb103, 0, none⟩ = some (.int .i64 (wrap64 ((wrap64 (rd l0 0)) - 1))) := (blk_cell BK103.out 0).trans rfl
                have hcz28_1 : wc.cell? ⟨gb103, 1, none⟩ = some (.int .i64 0) := (blk_cell BK103.out 1).trans rfl
                have hcz28_2 : wc.cell? ⟨gb103, 2, none⟩ = some (.string (⟨#[]⟩ : ByteArray)) := (blk_cell BK103.out 2).trans rfl
                have hfz28_0 := blk_frozen BK103.out 0
                have hfz28_1 := blk_frozen BK103.out 1
                have hfz28_2 := blk_frozen BK103.out 2
                go_wp2
                go_meet
                case rel => exact ⟨_, (decide ((y104.length : Int) ≥ 8)), (by first | rfl | (simp; done) | (simp [*]; done)), H', ⟨by have := HJ3.out; first | omega | exact Nat.le_refl _⟩, ⟨by (with_reducible repeat (first | apply Kd.V_alloc | apply Kd.V_drewN | apply Kd.V_drew)); exact HO_0.out⟩, ⟨by (with_reducible repeat (first | refine blk_drewN ?_ _ | refine blk_drew ?_ | refine blk_alloc ?_ _)); exact BK101.out⟩, ⟨by (with_reducible repeat (first | refine blk_drewN ?_ _ | refine blk_drew ?_ | refine blk_alloc ?_ _)); exact BK103.out⟩, ⟨by repeat (first | (with_reducible first | exact HB.out | apply below_alloc | apply pw_below_drewN | apply below_drew1 | refine below_set ?_ GE101.out | refine below_set ?_ GE103.out) | exact HB.out)⟩⟩
              · rw [if_neg c26] at H
                have c26b0 : ((wrap64 ((wrap64 (rd l0 0)) - 1)) == 2) = false := beq_eq_false_iff_ne.mpr c26
                have c26b1 : ((wrap64 ((wrap64 (rd l0 0)) - 1)) != 2) = true := bne_iff_ne.mpr c26
                (first | rw [c26b0] | (simp only [i64_w, i32_w]; rw [c26b0]) | skip)
                have H' := Aside0.mk H
                clear H
                have hnb29 := NB103_101.out
                have hnc29 := NB101_103.out
                have hcz30_0 : wc.cell? ⟨gb103, 0, none⟩ = some (.int .i64 (wrap64 ((wrap64 (rd l0 0)) - 1))) := (blk_cell BK103.out 0).trans rfl
                have hcz30_1 : wc.cell? ⟨gb103, 1, none⟩ = some (.int .i64 0) := (blk_cell BK103.out 1).trans rfl
                have hcz30_2 : wc.cell? ⟨gb103, 2, none⟩ = some (.string (⟨#[]⟩ : ByteArray)) := (blk_cell BK103.out 2).trans rfl
                have hfz30_0 := blk_frozen BK103.out 0
                have hfz30_1 := blk_frozen BK103.out 1
                have hfz30_2 := blk_frozen BK103.out 2
                go_wp2
                go_meet
                case rel => exact ⟨_, (false), (by first | rfl | (simp; done) | (simp [*]; done)), H', ⟨by have := HJ3.out; first | omega | exact Nat.le_refl _⟩, ⟨by (with_reducible repeat (first | apply Kd.V_alloc | apply Kd.V_drewN | apply Kd.V_drew)); exact HO_0.out⟩, ⟨by (with_reducible repeat (first | refine blk_drewN ?_ _ | refine blk_drew ?_ | refine blk_alloc ?_ _)); exact BK101.out⟩, ⟨by (with_reducible repeat (first | refine blk_drewN ?_ _ | refine blk_drew ?_ | refine blk_alloc ?_ _)); exact BK103.out⟩, ⟨by repeat (first | (with_reducible first | exact HB.out | apply below_alloc | apply pw_below_drewN | apply below_drew1 | refine below_set ?_ GE101.out | refine below_set ?_ GE103.out) | exact HB.out)⟩⟩
            case rest =>
              clear HC25
              try clear c1
              try clear p1
              try clear q1
              try clear hx1
              try clear qi1
              try clear c2
              try clear c2b0
              try clear c2b1
              try clear p2
              try clear q2
              try clear c3
              try clear c3b0
              try clear c3b1
              try clear p6
              try clear c7
              try clear c10
              try clear p10
              try clear q10
              try clear hx10
              try clear qi10
              try clear c11
              try clear c11b0
              try clear c11b1
              try clear c12
              try clear c14
              try clear c16
              try clear c17
              try clear c17b0
              try clear c17b1
              try clear c18
              try clear c18b0
              try clear c18b1
              try clear c19
              try clear c22
              try clear q22
              try clear c26
              try clear c26b0
              try clear c26b1
              try clear c27
              try clear c29
              try clear hcz13_0
              try clear hcz13_1
              try clear hcz13_2
              try clear hcz15_0
              try clear hcz15_1
              try clear hcz15_2
              try clear hcz20_0
              try clear hcz20_1
              try clear hcz20_2
              try clear hcz23_0
              try clear hcz23_1
              try clear hcz23_2
              try clear hcz24_0
              try clear hcz24_1
              try clear hcz24_2
              try clear hcz28_0
              try clear hcz28_1
              try clear hcz28_2
              try clear hcz30_0
              try clear hcz30_1
              try clear hcz30_2
              try clear hcz8_0
              try clear hcz8_1
              try clear hcz8_2
              try clear hfz13_0
              try clear hfz13_1
              try clear hfz13_2
              try clear hfz15_0
              try clear hfz15_1
              try clear hfz15_2
              try clear hfz20_0
              try clear hfz20_1
              try clear hfz20_2
              try clear hfz23_0
              try clear hfz23_1
              try clear hfz23_2
              try clear hfz24_0
              try clear hfz24_1
              try clear hfz24_2
              try clear hfz28_0
              try clear hfz28_1
              try clear hfz28_2
              try clear hfz30_0
              try clear hfz30_1
              try clear hfz30_2
              try clear hfz8_0
              try clear hfz8_1
              try clear hfz8_2
              try clear hx102_0
              try clear hx109_0
              try clear p1
              try clear p10
              try clear p102
              try clear p109
              try clear p2
              try clear p6
              try clear q1
              try clear q10
              try clear q102
              try clear q109
              try clear q22
              obtain ⟨kq, x32_24, rfl, HA, HJ24, HO_0, BK101, BK103, HB⟩ := hcut
              cases kq with
              | zero => exact absurd HA.out (by simp [impl_takeValue.j1])
              | succ kj24 =>
                have H := HA.out
                clear HA
                simp only [impl_takeValue.j1] at H
                by_cases c31 : x32_24 = true
                · subst c31
                  have H1 : (if 8 ≤ (y104.length : Int) then ((some (y104.take 8 : List Int)).bind fun y115 => (impl_takeValue.l0 kj24 y104 0 y115 (y115.length : Int) 0 (wrap64 ((wrap64 (rd l0 0)) - 1)) 0 (⟨#[]⟩ : ByteArray))) else (none)) = some (r1, r2, r3, r4) := by rw [if_pos rfl] at H; exact H
                  clear H
                  have H := H1
                  clear H1
                  by_cases c32 : 8 ≤ (y104.length : Int)
                  · rw [if_pos c32] at H
                    have c32b0 := eq_true c32
                    have c32b1 : decide (8 ≤ (y104.length : Int)) = true := decide_eq_true c32
                    clear c32
                    obtain ⟨y115, hy115⟩ : ∃ y_ : List Int, y_ = (y104.take 8) := ⟨_, rfl⟩
                    replace H : (impl_takeValue.l0 kj24 y104 0 y115 (y115.length : Int) 0 (wrap64 ((wrap64 (rd l0 0)) - 1)) 0 (⟨#[]⟩ : ByteArray)) = some (r1, r2, r3, r4) := by first | (rw [hy115]; with_reducible exact H) | (have H2_ := (Option.bind_some _ _).symm.trans H; rw [hy115]; with_reducible exact H2_) | (have H2_ := (Option.bind_some _ _).symm.trans H; with_reducible exact H2_) | with_reducible exact H | (rw [hy115]; exact H) | exact H
                    have Ny115 := Aside0.mk hy115
                    clear hy115
                    have H' := Aside0.mk H
                    clear H
                    have q33 : (8 : Int) ≤ ((y104.length : Int) : Int) := of_decide_eq_true (by first | (with_reducible assumption) | assumption)
                    obtain ⟨i033, hi033, _, hsz33, _⟩ := info_parts info5
                    have hroom33 : y104.length ≤ c10 := (Kd.V_reads' HO_0.out).2.1
                    have hC33 : Kd.F (Kd.int .u8) _ _ A10 y104.length y104 := (Kd.V_at (base := w.heap.size) HO_0.out).2.2
                    have hcut33 := cut_to (P := Try.prog) 22 5 .i64 Try.underlying22 hi033 A10 y104.length c10 8 (by omega) q33 hroom33
                    have hr33 := Kd.F_take (m := 8) hC33 (by omega)
                    have hy33 : y115.length = (8 : Int).toNat := (by rw [Ny115.out, List.length_take]; omega)
                    rw [← Ny115.out] at hr33
                    rw [← hy33] at hcut33
                    have HO119 := Aside0.mk (show Kd.V (Kd.int .u8) 5 _ w.heap.size _ (.slice A10 y115.length c10) y115 from Kd.V_mk (by omega) hr33)
                    have HC119 := Aside0.mk (show y115.length ≤ c10 from by omega)
                    clear hr33 hC33 hroom33 hi033 hsz33
                    have KY33 := Aside0.mk hy33
                    clear hy33
                    replace q33 := eq_true q33
                    go_wp2
                    go_loopg [5, 44] kj24 (fun kq v5 v44 w' => ∃ (x5_3 : Int) (x44_3 : Int), v5 = .int .u64 x5_3 ∧ v44 = .int .i64 x44_3 ∧ Aside0 (impl_takeValue.l0 kq y104 x5_3 y115 (y115.length : Int) x44_3 (wrap64 ((wrap64 (rd l0 0)) - 1)) 0 (⟨#[]⟩ : ByteArray) = some (r1, r2, r3, r4)) ∧ Aside0 (kq ≤ kj24) ∧ Aside0 (Kd.V (Kd.int .u8) 5 w' w.heap.size (fun k_ => (P0_ k_ ∨ w.heap.size ≤ k_) ∧ k_ ≠ gb101 ∧ k_ ≠ gb103) (.slice A10 y104.length c10) y104) ∧ Aside0 (Kd.V (Kd.int .u8) 5 w' w.heap.size (fun k_ => (P0_ k_ ∨ w.heap.size ≤ k_) ∧ k_ ≠ gb101 ∧ k_ ≠ gb103) (.slice A10 y115.length c10) y115) ∧ Aside0 (w'.heap[gb101]? = some (.cells #[.int .i64 0, .int .i64 0, .string (⟨#[]⟩ : ByteArray)] 37 (0, 0))) ∧ Aside0 (w'.heap[gb103]? = some (.cells #[.int .i64 (wrap64 ((wrap64 (rd l0 0)) - 1)), .int .i64 0, .string (⟨#[]⟩ : ByteArray)] 37 (0, 0))) ∧ Aside0 (Below w.heap.size w w'))
                    case atStart => exact ⟨(0), (0), (by first | rfl | (simp; done) | (simp [*]; done)), (by first | rfl | (simp; done) | (simp [*]; done)), H', ⟨Nat.le_refl _⟩, ⟨by (with_reducible repeat (first | apply Kd.V_alloc | apply Kd.V_drewN | apply Kd.V_drew)); exact HO_0.out⟩, ⟨by (with_reducible repeat (first | apply Kd.V_alloc | apply Kd.V_drewN | apply Kd.V_drew)); exact HO119.out⟩, ⟨by (with_reducible repeat (first | refine blk_drewN ?_ _ | refine blk_drew ?_ | refine blk_alloc ?_ _)); exact BK101.out⟩, ⟨by (with_reducible repeat (first | refine blk_drewN ?_ _ | refine blk_drew ?_ | refine blk_alloc ?_ _)); exact BK103.out⟩, ⟨by repeat (first | (with_reducible first | exact HB.out | apply below_alloc | apply pw_below_drewN | apply below_drew1 | refine below_set ?_ GE101.out | refine below_set ?_ GE103.out) | exact HB.out)⟩⟩
                    case round =>
                      clear H'
                      try clear c1
                      try clear p1
                      try clear q1
                      try clear hx1
                      try clear qi1
                      try clear c2
                      try clear c2b0
                      try clear c2b1
                      try clear p2
                      try clear q2
                      try clear c3
                      try clear c3b0
                      try clear c3b1
                      try clear q3
                      try clear p6
                      try clear c7
                      try clear c10
                      try clear p10
                      try clear q10
                      try clear hx10
                      try clear qi10
                      try clear c11
                      try clear c11b0
                      try clear c11b1
                      try clear c12
                      try clear c14
                      try clear c16
                      try clear c17
                      try clear c17b0
                      try clear c17b1
                      try clear c18
                      try clear c18b0
                      try clear c18b1
                      try clear c19
                      try clear c22
                      try clear q22
                      try clear c26
                      try clear c26b0
                      try clear c26b1
                      try clear c27
                      try clear c29
                      try clear c31
                      try clear c32
                      try clear c32b0
                      try clear c32b1
                      try clear q33
                      try clear hcz13_0
                      try clear hcz13_1
                      try clear hcz13_2
                      try clear hcz15_0
                      try clear hcz15_1
                      try clear hcz15_2
                      try clear hcz20_0
                      try clear hcz20_1
                      try clear hcz20_2
                      try clear hcz23_0
                      try clear hcz23_1
                      try clear hcz23_2
                      try clear hcz24_0
                      try clear hcz24_1
                      try clear hcz24_2
                      try clear hcz28_0
                      try clear hcz28_1
                      try clear hcz28_2
                      try clear hcz30_0
                      try clear hcz30_1
                      try clear hcz30_2
                      try clear hcz8_0
                      try clear hcz8_1
                      try clear hcz8_2
                      try clear hfz13_0
                      try clear hfz13_1
                      try clear hfz13_2
                      try clear hfz15_0
                      try clear hfz15_1
                      try clear hfz15_2
                      try clear hfz20_0
                      try clear hfz20_1
                      try clear hfz20_2
                      try clear hfz23_0
                      try clear hfz23_1
                      try clear hfz23_2
                      try clear hfz24_0
                      try clear hfz24_1
                      try clear hfz24_2
                      try clear hfz28_0
                      try clear hfz28_1
                      try clear hfz28_2
                      try clear hfz30_0
                      try clear hfz30_1
                      try clear hfz30_2
                      try clear hfz8_0
                      try clear hfz8_1
                      try clear hfz8_2
                      try clear hx102_0
                      try clear hx109_0
                      try clear p1
                      try clear p10
                      try clear p102
                      try clear p109
                      try clear p2
                      try clear p6
                      try clear q1
                      try clear q10
                      try clear q102
                      try clear q109
                      try clear q2
                      try clear q22
                      try clear q33
                      obtain ⟨x5_3, x44_3, rfl, rfl, HA, HK3, HO_0, HO_42, BK101, BK103, HB⟩ := hrel
                      cases gk with
                      | zero => exact absurd HA.out (by simp [impl_takeValue.l0])
                      | succ k3 =>
                        have H := HA.out
                        clear HA
                        simp only [impl_takeValue.l0] at H
                        by_cases c34 : x44_3 < (y115.length : Int)
                        · rw [if_pos c34] at H
                          have c34b0 : decide (x44_3 < (y115.length : Int)) = true := decide_eq_true c34
                          clear c34
                          by_cases c35 : 0 ≤ x44_3
                          · rw [if_pos c35] at H
                            have c35b0 : decide (0 ≤ x44_3) = true := decide_eq_true c35
                            clear c35
                            by_cases c36 : x44_3 < (y115.length : Int)
                            · rw [if_pos c36] at H
                              have c36b0 : decide (x44_3 < (y115.length : Int)) = true := decide_eq_true c36
                              clear c36
                              have H' := Aside0.mk H
                              clear H
                              have p120 : 0 ≤ (x44_3 : Int) := of_decide_eq_true (by first | (with_reducible assumption) | assumption)
                              have q120 : x44_3 < (y115.length : Int) := of_decide_eq_true (by first | (with_reducible assumption) | assumption)
                              obtain ⟨ad120, e120, hx120_0⟩ := Kd.at_int (Kd.V_reads' HO_42.out).2.2 x44_3 p120 q120
                              cases e120
                              replace p120 := eq_true p120
                              replace q120 := eq_true q120
                              go_wp2
                              go_roundg k3
                              case measure => have := HJ3.out; have := HJ24.out; have := HK3.out; omega
                              case rel => exact ⟨(Go.bits .or .u64 (IntKind.u64.wrap (x5_3 * 256)) (IntKind.u64.wrap (rd y115 x44_3))), (wrap64 (x44_3 + 1)), (by first | rfl | (simp; done) | (simp [*]; done)), (by first | rfl | (simp; done) | (simp [*]; done)), H', ⟨by have := HJ3.out; have := HJ24.out; have := HK3.out; omega⟩, ⟨by (with_reducible repeat (first | apply Kd.V_alloc | apply Kd.V_drewN | apply Kd.V_drew)); exact HO_0.out⟩, ⟨by (with_reducible repeat (first | apply Kd.V_alloc | apply Kd.V_drewN | apply Kd.V_drew)); exact HO_42.out⟩, ⟨by (with_reducible repeat (first | refine blk_drewN ?_ _ | refine blk_drew ?_ | refine blk_alloc ?_ _)); exact BK101.out⟩, ⟨by (with_reducible repeat (first | refine blk_drewN ?_ _ | refine blk_drew ?_ | refine blk_alloc ?_ _)); exact BK103.out⟩, ⟨by repeat (first | (with_reducible first | exact HB.out | apply below_alloc | apply pw_below_drewN | apply below_drew1 | refine below_set ?_ GE101.out | refine below_set ?_ GE103.out) | exact HB.out)⟩⟩
                            · rw [if_neg c36] at H
                              exact absurd H (by simp)
                          · rw [if_neg c35] at H
                            exact absurd H (by simp)
                        · rw [if_neg c34] at H
                          have c34b0 : decide (x44_3 < (y115.length : Int)) = false := decide_eq_false c34
                          clear c34
                          by_cases c37 : 8 ≤ (y104.length : Int)
                          · rw [if_pos c37] at H
                            have c37b0 := eq_true c37
                            have c37b1 : decide (8 ≤ (y104.length : Int)) = true := decide_eq_true c37
                            clear c37
                            obtain ⟨y121, hy121⟩ : ∃ y_ : List Int, y_ = (y104.drop 8) := ⟨_, rfl⟩
                            replace H : (some ((wrap64 ((wrap64 (rd l0 0)) - 1)), wrap64 ((wrap64 (x5_3)) - 4611686018427387904), (⟨#[]⟩ : ByteArray), y121)) = some (r1, r2, r3, r4) := by first | (rw [hy121]; with_reducible exact H) | (have H2_ := (Option.bind_some _ _).symm.trans H; rw [hy121]; with_reducible exact H2_) | (have H2_ := (Option.bind_some _ _).symm.trans H; with_reducible exact H2_) | with_reducible exact H | (rw [hy121]; exact H) | exact H
                            have Ny121 := Aside0.mk hy121
                            clear hy121
                            simp only [Option.some.injEq, Prod.mk.injEq] at H
                            obtain ⟨rfl, rfl, rfl, rfl⟩ := H
                            have hnb38 := NB103_101.out
                            have hnc38 := NB101_103.out
                            have hcz39_0 : wr.cell? ⟨gb103, 0, none⟩ = some (.int .i64 (wrap64 ((wrap64 (rd l0 0)) - 1))) := (blk_cell BK103.out 0).trans rfl
                            have hcz39_1 : wr.cell? ⟨gb103, 1, none⟩ = some (.int .i64 0) := (blk_cell BK103.out 1).trans rfl
                            have hcz39_2 : wr.cell? ⟨gb103, 2, none⟩ = some (.string (⟨#[]⟩ : ByteArray)) := (blk_cell BK103.out 2).trans rfl
                            have hfz39_0 := blk_frozen BK103.out 0
                            have hfz39_1 := blk_frozen BK103.out 1
                            have hfz39_2 := blk_frozen BK103.out 2
                            go_wp2_with (first | ((with_reducible refine gate_store (t := 3) (p := 57) rfl ?_); refine store_event (t := 3) (p := 57) (v := ?vo_w40) (w1 := (wr.setCell ⟨gb103, 1, none⟩ (.int .i64 (wrap64 ((wrap64 (x5_3)) - 4611686018427387904))))) ?hg ?ho ?hn ?hr ?_; (case ho => rfl); (case hg => rfl); (case hn => rfl); (case hr => first | (go_simp; done) | (go_simp; rfl)); intro w40 hw; have n0_ : Aside0 (Kd.V (Kd.int .u8) 5 w40 w.heap.size (fun k_ => (P0_ k_ ∨ w.heap.size ≤ k_) ∧ k_ ≠ gb101 ∧ k_ ≠ gb103) (.slice A10 y104.length c10) y104) := ⟨(by rw [hw]; exact (by (with_reducible repeat (first | apply Kd.V_alloc | apply Kd.V_drewN | apply Kd.V_drew)); exact Kd.V_mono (Kd.V_far (p := ⟨gb103, 1, none⟩) (Kd.V_mono HO_0.out (fun k_ hk => (⟨hk, hk.2.2⟩ : _ ∧ k_ ≠ gb103))) (fun _ hk => hk.2) (.int .i64 (wrap64 ((wrap64 (x5_3)) - 4611686018427387904)))) (fun _ hk => ⟨hk.1.1, ⟨hk.1.2.1, hk.1.2.2⟩⟩)))⟩; have n1_ : Aside0 (Kd.V (Kd.int .u8) 5 w40 w.heap.size (fun k_ => (P0_ k_ ∨ w.heap.size ≤ k_) ∧ k_ ≠ gb101 ∧ k_ ≠ gb103) (.slice A10 y115.length c10) y115) := ⟨(by rw [hw]; exact (by (with_reducible repeat (first | apply Kd.V_alloc | apply Kd.V_drewN | apply Kd.V_drew)); exact Kd.V_mono (Kd.V_far (p := ⟨gb103, 1, none⟩) (Kd.V_mono HO_42.out (fun k_ hk => (⟨hk, hk.2.2⟩ : _ ∧ k_ ≠ gb103))) (fun _ hk => hk.2) (.int .i64 (wrap64 ((wrap64 (x5_3)) - 4611686018427387904)))) (fun _ hk => ⟨hk.1.1, ⟨hk.1.2.1, hk.1.2.2⟩⟩)))⟩; have n2_ : Aside0 (w40.heap[gb101]? = some (.cells #[.int .i64 0, .int .i64 0, .string (⟨#[]⟩ : ByteArray)] 37 (0, 0))) := ⟨(by rw [hw]; exact (by (with_reducible repeat (first | refine blk_drewN ?_ _ | refine blk_drew ?_ | refine blk_alloc ?_ _)); refine blk_far ?_ NB101_103.out _; (with_reducible repeat (first | refine blk_drewN ?_ _ | refine blk_drew ?_ | refine blk_alloc ?_ _)); exact BK101.out))⟩; have n3_ : Aside0 (w40.heap[gb103]? = some (.cells #[.int .i64 (wrap64 ((wrap64 (rd l0 0)) - 1)), .int .i64 (wrap64 ((wrap64 (x5_3)) - 4611686018427387904)), .string (⟨#[]⟩ : ByteArray)] 37 (0, 0))) := ⟨(by rw [hw]; exact (by (with_reducible repeat (first | refine blk_drewN ?_ _ | refine blk_drew ?_ | refine blk_alloc ?_ _)); refine blk_put (cs := #[.int .i64 (wrap64 ((wrap64 (rd l0 0)) - 1)), .int .i64 0, .string (⟨#[]⟩ : ByteArray)]) ?_ 1 _ rfl; (with_reducible repeat (first | refine blk_drewN ?_ _ | refine blk_drew ?_ | refine blk_alloc ?_ _)); exact BK103.out))⟩; have n4_ : Aside0 (Below w.heap.size w w40) := ⟨(by rw [hw]; exact (by repeat (first | (with_reducible first | exact HB.out | apply below_alloc | apply pw_below_drewN | apply below_drew1 | refine below_set ?_ GE101.out | refine below_set ?_ GE103.out) | exact HB.out)))⟩; clear hw; clear HO_0; clear HO_42; clear BK101; clear BK103; clear HB; have HO_0 := n0_; have HO_42 := n1_; have BK101 := n2_; have BK103 := n3_; have HB := n4_; clear n0_ n1_ n2_ n3_ n4_; have q41 : (8 : Int) ≤ ((y104.length : Int) : Int) := of_decide_eq_true (by first | (with_reducible assumption) | assumption); obtain ⟨i041, hi041, _, hsz41, _⟩ := info_parts info5; have hroom41 : y104.length ≤ c10 := (Kd.V_reads' HO_0.out).2.1; have hC41 : Kd.F (Kd.int .u8) _ _ A10 y104.length y104 := (Kd.V_at (base := w.heap.size) HO_0.out).2.2; have hcut41 := cut_from (P := Try.prog) 22 5 .i64 Try.underlying22 hi041 1 hsz41 A10 y104.length c10 8 (by omega) q41; have hr41 := Kd.F_cut (m := (8 : Int).toNat) (c := c10) hC41 (by omega) hroom41; obtain ⟨A41, hA41⟩ : ∃ A1, A1 = (if c10 = (8 : Int).toNat then A10 else (A10 : Option Addr).map (·.add ((8 : Int).toNat * 1))) := ⟨_, rfl⟩; obtain ⟨c41, hc41⟩ : ∃ c1, c1 = c10 - (8 : Int).toNat := ⟨_, rfl⟩; have hy41 : y121.length = y104.length - (8 : Int).toNat := (by rw [Ny121.out, List.length_drop] <;> omega); rw [show (y104).drop (8 : Int).toNat = y121 from Ny121.out.symm] at hr41; replace hr41 : Kd.F (Kd.int .u8) _ _ A41 y121.length y121 := (by rw [hA41]; exact hr41); rw [← hy41, ← hA41, ← hc41] at hcut41; have HO125 := Aside0.mk (show Kd.V (Kd.int .u8) 5 _ w.heap.size _ (.slice A41 y121.length c41) y121 from Kd.V_mk (by rw [hy41, hc41]; exact Nat.sub_le_sub_right hroom41 _) hr41); have HC125 := Aside0.mk (show y121.length ≤ c41 from by rw [hy41, hc41]; exact Nat.sub_le_sub_right hroom41 _); clear hr41 hC41 hroom41 hi041 hsz41 hc41; have KY41 := Aside0.mk hy41; have KA41 := Aside0.mk hA41; clear hy41 hA41; replace q41 := eq_true q41; have hcz42_0 : w40.cell? ⟨gb103, 0, none⟩ = some (.int .i64 (wrap64 ((wrap64 (rd l0 0)) - 1))) := (blk_cell BK103.out 0).trans rfl; have hcz42_1 : w40.cell? ⟨gb103, 1, none⟩ = some (.int .i64 (wrap64 ((wrap64 (x5_3)) - 4611686018427387904))) := (blk_cell BK103.out 1).trans rfl; have hcz42_2 : w40.cell? ⟨gb103, 2, none⟩ = some (.string (⟨#[]⟩ : ByteArray)) := (blk_cell BK103.out 2).trans rfl; have hfz42_0 := blk_frozen BK103.out 0; have hfz42_1 := blk_frozen BK103.out 1; have hfz42_2 := blk_frozen BK103.out 2; have hcz43_0 : w40.cell? ⟨gb101, 0, none⟩ = some (.int .i64 0) := (blk_cell BK101.out 0).trans rfl; have hcz43_1 : w40.cell? ⟨gb101, 1, none⟩ = some (.int .i64 0) := (blk_cell BK101.out 1).trans rfl; have hcz43_2 : w40.cell? ⟨gb101, 2, none⟩ = some (.string (⟨#[]⟩ : ByteArray)) := (blk_cell BK101.out 2).trans rfl; have hfz43_0 := blk_frozen BK101.out 0; have hfz43_1 := blk_frozen BK101.out 1; have hfz43_2 := blk_frozen BK101.out 2))
                            refine bodyPost_ret (results_ct rfl _ _ gb101 37 #[.int .i64 (wrap64 ((wrap64 (rd l0 0)) - 1)), .int .i64 (wrap64 ((wrap64 (x5_3)) - 4611686018427387904)), .string (⟨#[]⟩ : ByteArray)] (0, 0) _ rfl (by (with_reducible repeat (first | refine blk_drewN ?_ _ | refine blk_drew ?_ | refine blk_alloc ?_ _)); refine blk_put (cs := #[.int .i64 (wrap64 ((wrap64 (rd l0 0)) - 1)), .int .i64 (wrap64 ((wrap64 (x5_3)) - 4611686018427387904)), .string (⟨#[]⟩ : ByteArray)]) ?_ 2 _ rfl; (with_reducible repeat (first | refine blk_drewN ?_ _ | refine blk_drew ?_ | refine blk_alloc ?_ _)); refine blk_put (cs := #[.int .i64 (wrap64 ((wrap64 (rd l0 0)) - 1)), .int .i64 0, .string (⟨#[]⟩ : ByteArray)]) ?_ 1 _ rfl; (with_reducible repeat (first | refine blk_drewN ?_ _ | refine blk_drew ?_ | refine blk_alloc ?_ _)); refine blk_put (cs := #[.int .i64 0, .int .i64 0, .string (⟨#[]⟩ : ByteArray)]) ?_ 0 _ rfl; (with_reducible repeat (first | refine blk_drewN ?_ _ | refine blk_drew ?_ | refine blk_alloc ?_ _)); exact BK101.out) Try.underlying37 rfl (by kernel_rfl)) rfl ?_
                            exact ⟨_, by first | rfl | (simp [errW_none, errW_some] <;> rfl) | (simp [*, errW_none, errW_some] <;> rfl), by (with_reducible repeat (first | apply Kd.V_alloc | apply Kd.V_drewN | apply Kd.V_drew)); exact Kd.V_mono (Kd.V_far (p := ⟨gb101, 2, none⟩) (Kd.V_far (p := ⟨gb101, 1, none⟩) (Kd.V_far (p := ⟨gb101, 0, none⟩) (Kd.V_mono HO125.out (fun k_ hk => (⟨hk, hk.2.1⟩ : _ ∧ k_ ≠ gb101))) (fun _ hk => hk.2) (.int .i64 (wrap64 ((wrap64 (rd l0 0)) - 1)))) (fun _ hk => hk.2) (.int .i64 (wrap64 ((wrap64 (x5_3)) - 4611686018427387904)))) (fun _ hk => hk.2) (.string (⟨#[]⟩ : ByteArray))) (fun _ hk => hk.1.1), by repeat (first | (with_reducible first | exact HB.out | apply below_alloc | apply pw_below_drewN | apply below_drew1 | refine below_set ?_ GE101.out | refine below_set ?_ GE103.out) | exact HB.out)⟩
                          · rw [if_neg c37] at H
                            exact absurd H (by simp)
                  · rw [if_neg c32] at H
                    exact absurd H (by simp)
                · replace c31 := Bool.eq_false_iff.mpr c31
                  subst c31
                  have H1 : (if (wrap64 ((wrap64 (rd l0 0)) - 1)) = 3 then ((impl_takeText.f kj24 y104).bind fun bt126 => (some ((wrap64 ((wrap64 (rd l0 0)) - 1)), 0, bt126.1, bt126.2))) else (some ((wrap64 ((wrap64 (rd l0 0)) - 1)), 0, (⟨#[]⟩ : ByteArray), y104))) = some (r1, r2, r3, r4) := by rw [if_neg (show ¬ (false = true) by decide)] at H; exact H
                  clear H
                  have H := H1
                  clear H1
                  by_cases c44 : (wrap64 ((wrap64 (rd l0 0)) - 1)) = 3
                  · rw [if_pos c44] at H
                    have c44b0 : ((wrap64 ((wrap64 (rd l0 0)) - 1)) == 3) = true := beq_iff_eq.mpr c44
                    have c44b1 : ((wrap64 ((wrap64 (rd l0 0)) - 1)) != 3) = false := bne_eq_false_iff_eq.mpr c44
                    clear c44
                    replace H := Option.bind_eq_some_iff.mp H
                    obtain ⟨⟨t126, t127⟩, A450, H⟩ := H
                    replace H : (some ((wrap64 ((wrap64 (rd l0 0)) - 1)), 0, t126, t127)) = some (r1, r2, r3, r4) := H
                    have A45 := Aside0.mk A450
                    clear A450
                    simp only [Option.some.injEq, Prod.mk.injEq] at H
                    obtain ⟨rfl, rfl, rfl, rfl⟩ := H
                    have hnb46 := NB103_101.out
                    have hnc46 := NB101_103.out
                    have hcz47_0 : wc.cell? ⟨gb103, 0, none⟩ = some (.int .i64 (wrap64 ((wrap64 (rd l0 0)) - 1))) := (blk_cell BK103.out 0).trans rfl
                    have hcz47_1 : wc.cell? ⟨gb103, 1, none⟩ = some (.int .i64 0) := (blk_cell BK103.out 1).trans rfl
                    have hcz47_2 : wc.cell? ⟨gb103, 2, none⟩ = some (.string (⟨#[]⟩ : ByteArray)) := (blk_cell BK103.out 2).trans rfl
                    have hfz47_0 := blk_frozen BK103.out 0
                    have hfz47_1 := blk_frozen BK103.out 1
                    have hfz47_2 := blk_frozen BK103.out 2
                    go_wp2_with (first | ((with_reducible refine gate_callee (f := 89) rfl ?_); refine goesL_ (some 66) rfl rfl Try.func89 (by kernel_rfl) rfl #[.slice A10 y104.length c10] rfl (by (try simp only [List.map_toArray, List.map_cons, List.map_nil]); first | done | rfl | (simp only [List.length_drop, List.length_take]; rfl)) ?_; (with_reducible refine (impl_takeText.calls kj24 (fun k_ => ((P0_ k_ ∨ w.heap.size ≤ k_) ∧ (k_ ≠ gb101 ∧ k_ ≠ gb103))) _ _ y104 t126 t127 _ ?side1 A45.out).mono ?_); (case side1 => exact HO_0.out); rintro e w48 ⟨v128, rfl, ho0, hb⟩; refine ⟨_, rfl, ?_⟩; have n0_ := Aside0.mk (Kd.V_below (by (with_reducible repeat (first | apply Kd.V_alloc | apply Kd.V_drewN | apply Kd.V_drew)); exact HO_0.out) hb); have n1_ := Aside0.mk (Kd.V_lower (Kd.V_mono (ok' := fun k_ => (P0_ k_ ∨ w.heap.size ≤ k_) ∧ k_ ≠ gb101 ∧ k_ ≠ gb103) ho0 (fun k_ hk_ => ⟨Or.elim hk_ (fun hs_ => hs_.1) (fun hn_ => (.inr (Nat.le_trans (below_size (by repeat (first | (with_reducible first | exact HB.out | apply below_alloc | apply pw_below_drewN | apply below_drew1 | refine below_set ?_ GE101.out | refine below_set ?_ GE103.out) | exact HB.out))) hn_))), Or.elim hk_ (fun hs_ => hs_.2.1) (fun hn_ => (Kd.freshB (g := gb101) (o := .cells #[.int .i64 0, .int .i64 0, .string (⟨#[]⟩ : ByteArray)] 37 (0, 0)) (by (with_reducible repeat (first | refine blk_drewN ?_ _ | refine blk_drew ?_ | refine blk_alloc ?_ _)); exact BK101.out) k_ hn_)), Or.elim hk_ (fun hs_ => hs_.2.2) (fun hn_ => (Kd.freshB (g := gb103) (o := .cells #[.int .i64 (wrap64 ((wrap64 (rd l0 0)) - 1)), .int .i64 0, .string (⟨#[]⟩ : ByteArray)] 37 (0, 0)) (by (with_reducible repeat (first | refine blk_drewN ?_ _ | refine blk_drew ?_ | refine blk_alloc ?_ _)); exact BK103.out) k_ hn_))⟩)) (below_size (by repeat (first | (with_reducible first | exact HB.out | apply below_alloc | apply pw_below_drewN | apply below_drew1 | refine below_set ?_ GE101.out | refine below_set ?_ GE103.out) | exact HB.out)))); have n2_ := Aside0.mk (blk_below (g := gb101) (o := .cells #[.int .i64 0, .int .i64 0, .string (⟨#[]⟩ : ByteArray)] 37 (0, 0)) (by (with_reducible repeat (first | refine blk_drewN ?_ _ | refine blk_drew ?_ | refine blk_alloc ?_ _)); exact BK101.out) hb); have n3_ := Aside0.mk (blk_below (g := gb103) (o := .cells #[.int .i64 (wrap64 ((wrap64 (rd l0 0)) - 1)), .int .i64 0, .string (⟨#[]⟩ : ByteArray)] 37 (0, 0)) (by (with_reducible repeat (first | refine blk_drewN ?_ _ | refine blk_drew ?_ | refine blk_alloc ?_ _)); exact BK103.out) hb); have n4_ := Aside0.mk (below_step (by repeat (first | (with_reducible first | exact HB.out | apply below_alloc | apply pw_below_drewN | apply below_drew1 | refine below_set ?_ GE101.out | refine below_set ?_ GE103.out) | exact HB.out)) hb); clear HO_0; clear BK101; clear BK103; clear HB; have HO_0 := n0_; have HO129 := n1_; have BK101 := n2_; have BK103 := n3_; have HB := n4_; clear n0_ n1_ n2_ n3_ n4_; (try clear hb); (try clear hb2); (try clear hk); (try clear hi); (try clear ho0); have hcz49_0 : w48.cell? ⟨gb103, 0, none⟩ = some (.int .i64 (wrap64 ((wrap64 (rd l0 0)) - 1))) := (blk_cell BK103.out 0).trans rfl; have hcz49_1 : w48.cell? ⟨gb103, 1, none⟩ = some (.int .i64 0) := (blk_cell BK103.out 1).trans rfl; have hcz49_2 : w48.cell? ⟨gb103, 2, none⟩ = some (.string (⟨#[]⟩ : ByteArray)) := (blk_cell BK103.out 2).trans rfl; have hfz49_0 := blk_frozen BK103.out 0; have hfz49_1 := blk_frozen BK103.out 1; have hfz49_2 := blk_frozen BK103.out 2; have hcz50_0 : w48.cell? ⟨gb101, 0, none⟩ = some (.int .i64 0) := (blk_cell BK101.out 0).trans rfl; have hcz50_1 : w48.cell? ⟨gb101, 1, none⟩ = some (.int .i64 0) := (blk_cell BK101.out 1).trans rfl; have hcz50_2 : w48.cell? ⟨gb101, 2, none⟩ = some (.string (⟨#[]⟩ : ByteArray)) := (blk_cell BK101.out 2).trans rfl; have hfz50_0 := blk_frozen BK101.out 0; have hfz50_1 := blk_frozen BK101.out 1; have hfz50_2 := blk_frozen BK101.out 2))
                    refine bodyPost_ret (results_ct rfl _ _ gb101 37 #[.int .i64 (wrap64 ((wrap64 (rd l0 0)) - 1)), .int .i64 0, .string t126] (0, 0) _ rfl (by (with_reducible repeat (first | refine blk_drewN ?_ _ | refine blk_drew ?_ | refine blk_alloc ?_ _)); refine blk_put (cs := #[.int .i64 (wrap64 ((wrap64 (rd l0 0)) - 1)), .int .i64 0, .string (⟨#[]⟩ : ByteArray)]) ?_ 2 _ rfl; (with_reducible repeat (first | refine blk_drewN ?_ _ | refine blk_drew ?_ | refine blk_alloc ?_ _)); refine blk_put (cs := #[.int .i64 (wrap64 ((wrap64 (rd l0 0)) - 1)), .int .i64 0, .string (⟨#[]⟩ : ByteArray)]) ?_ 1 _ rfl; (with_reducible repeat (first | refine blk_drewN ?_ _ | refine blk_drew ?_ | refine blk_alloc ?_ _)); refine blk_put (cs := #[.int .i64 0, .int .i64 0, .string (⟨#[]⟩ : ByteArray)]) ?_ 0 _ rfl; (with_reducible repeat (first | refine blk_drewN ?_ _ | refine blk_drew ?_ | refine blk_alloc ?_ _)); refine blk_far ?_ NB101_103.out _; (with_reducible repeat (first | refine blk_drewN ?_ _ | refine blk_drew ?_ | refine blk_alloc ?_ _)); exact BK101.out) Try.underlying37 rfl (by kernel_rfl)) rfl ?_
                    exact ⟨_, by first | rfl | (simp [errW_none, errW_some] <;> rfl) | (simp [*, errW_none, errW_some] <;> rfl), by (with_reducible repeat (first | apply Kd.V_alloc | apply Kd.V_drewN | apply Kd.V_drew)); exact Kd.V_mono (Kd.V_far (p := ⟨gb101, 2, none⟩) (Kd.V_far (p := ⟨gb101, 1, none⟩) (Kd.V_far (p := ⟨gb101, 0, none⟩) (Kd.V_far (p := ⟨gb103, 2, none⟩) (Kd.V_mono (Kd.V_mono HO129.out (fun k_ hk => (⟨hk, hk.2.2⟩ : _ ∧ k_ ≠ gb103))) (fun k_ hk => (⟨hk, hk.1.2.1⟩ : _ ∧ k_ ≠ gb101))) (fun _ hk => hk.1.2) (.string t126)) (fun _ hk => hk.2) (.int .i64 (wrap64 ((wrap64 (rd l0 0)) - 1)))) (fun _ hk => hk.2) (.int .i64 0)) (fun _ hk => hk.2) (.string t126)) (fun _ hk => hk.1.1.1), by repeat (first | (with_reducible first | exact HB.out | apply below_alloc | apply pw_below_drewN | apply below_drew1 | refine below_set ?_ GE101.out | refine below_set ?_ GE103.out) | exact HB.out)⟩
                  · rw [if_neg c44] at H
                    have c44b0 : ((wrap64 ((wrap64 (rd l0 0)) - 1)) == 3) = false := beq_eq_false_iff_ne.mpr c44
                    have c44b1 : ((wrap64 ((wrap64 (rd l0 0)) - 1)) != 3) = true := bne_iff_ne.mpr c44
                    simp only [Option.some.injEq, Prod.mk.injEq] at H
                    obtain ⟨rfl, rfl, rfl, rfl⟩ := H
                    have hnb51 := NB103_101.out
                    have hnc51 := NB101_103.out
                    have hcz52_0 : wc.cell? ⟨gb103, 0, none⟩ = some (.int .i64 (wrap64 ((wrap64 (rd l0 0)) - 1))) := (blk_cell BK103.out 0).trans rfl
                    have hcz52_1 : wc.cell? ⟨gb103, 1, none⟩ = some (.int .i64 0) := (blk_cell BK103.out 1).trans rfl
                    have hcz52_2 : wc.cell? ⟨gb103, 2, none⟩ = some (.string (⟨#[]⟩ : ByteArray)) := (blk_cell BK103.out 2).trans rfl
                    have hfz52_0 := blk_frozen BK103.out 0
                    have hfz52_1 := blk_frozen BK103.out 1
                    have hfz52_2 := blk_frozen BK103.out 2
                    have hcz53_0 : wc.cell? ⟨gb101, 0, none⟩ = some (.int .i64 0) := (blk_cell BK101.out 0).trans rfl
                    have hcz53_1 : wc.cell? ⟨gb101, 1, none⟩ = some (.int .i64 0) := (blk_cell BK101.out 1).trans rfl
                    have hcz53_2 : wc.cell? ⟨gb101, 2, none⟩ = some (.string (⟨#[]⟩ : ByteArray)) := (blk_cell BK101.out 2).trans rfl
                    have hfz53_0 := blk_frozen BK101.out 0
                    have hfz53_1 := blk_frozen BK101.out 1
                    have hfz53_2 := blk_frozen BK101.out 2
                    go_wp2
                    refine bodyPost_ret (results_ct rfl _ _ gb101 37 #[.int .i64 (wrap64 ((wrap64 (rd l0 0)) - 1)), .int .i64 0, .string (⟨#[]⟩ : ByteArray)] (0, 0) _ rfl (by (with_reducible repeat (first | refine blk_drewN ?_ _ | refine blk_drew ?_ | refine blk_alloc ?_ _)); refine blk_put (cs := #[.int .i64 (wrap64 ((wrap64 (rd l0 0)) - 1)), .int .i64 0, .string (⟨#[]⟩ : ByteArray)]) ?_ 2 _ rfl; (with_reducible repeat (first | refine blk_drewN ?_ _ | refine blk_drew ?_ | refine blk_alloc ?_ _)); refine blk_put (cs := #[.int .i64 (wrap64 ((wrap64 (rd l0 0)) - 1)), .int .i64 0, .string (⟨#[]⟩ : ByteArray)]) ?_ 1 _ rfl; (with_reducible repeat (first | refine blk_drewN ?_ _ | refine blk_drew ?_ | refine blk_alloc ?_ _)); refine blk_put (cs := #[.int .i64 0, .int .i64 0, .string (⟨#[]⟩ : ByteArray)]) ?_ 0 _ rfl; (with_reducible repeat (first | refine blk_drewN ?_ _ | refine blk_drew ?_ | refine blk_alloc ?_ _)); exact BK101.out) Try.underlying37 rfl (by kernel_rfl)) rfl ?_
                    exact ⟨_, by first | rfl | (simp [errW_none, errW_some] <;> rfl) | (simp [*, errW_none, errW_some] <;> rfl), by (with_reducible repeat (first | apply Kd.V_alloc | apply Kd.V_drewN | apply Kd.V_drew)); exact Kd.V_mono (Kd.V_far (p := ⟨gb101, 2, none⟩) (Kd.V_far (p := ⟨gb101, 1, none⟩) (Kd.V_far (p := ⟨gb101, 0, none⟩) (Kd.V_mono HO_0.out (fun k_ hk => (⟨hk, hk.2.1⟩ : _ ∧ k_ ≠ gb101))) (fun _ hk => hk.2) (.int .i64 (wrap64 ((wrap64 (rd l0 0)) - 1)))) (fun _ hk => hk.2) (.int .i64 0)) (fun _ hk => hk.2) (.string (⟨#[]⟩ : ByteArray))) (fun _ hk => hk.1.1), by repeat (first | (with_reducible first | exact HB.out | apply below_alloc | apply pw_below_drewN | apply below_drew1 | refine below_set ?_ GE101.out | refine below_set ?_ GE103.out) | exact HB.out)⟩
    · rw [if_neg c3] at H
      exact absurd H (by simp)
  · rw [if_neg c2] at H
    exact absurd H (by simp)
end Go.Proofs.Ytcedikpkbgofhaa.P2
namespace Go.Proofs.Ytcedikpkbgofhaa.P2
open Go.Proofs.YtcedikpkbgofhaaZ Go.RowKit Go.Proofs.YtcedikpkbgofhaaW.PrintWords Go.Proofs.YtcedikpkbgofhaaW.PrintLast Go.Proofs.YtcedikpkbgofhaaW.PrintMore
attribute [local go_sem] max2_int min2_int max_two min_two max_three min_three max_four min_four   -- for this text's walks alone
def bytes_Equal.f (l0 : List Int) (l1 : List Int) : Option (Bool) := some ((strOfNums l0).toList == (strOfNums l1).toList)
set_option maxHeartbeats 8000000 in
set_option maxRecDepth 100000 in
theorem bytes_Equal.calls (A0 : Option Addr) (c0 : Nat) (l0 : List Int) (A1 : Option Addr) (c1 : Nat) (l1 : List Int) (r : Bool) (w : World) (hr0 : Kd.C (Kd.int .u8) w A0 l0.length l0) (hc0 : l0.length ≤ c0) (hr1 : Kd.C (Kd.int .u8) w A1 l1.length l1) (hc1 : l1.length ≤ c1) (h : bytes_Equal.f l0 l1 = some r) :
    Calls Try.prog 75 #[.slice A0 l0.length c0, .slice A1 l1.length c1] w fun e w' => e = .returned (.bool r) ∧ Drawn0 w w' := by
  have HR0 := aM hr0
  have HC0 := aM hc0
  clear hr0 hc0
  have HR1 := aM hr1
  have HC1 := aM hc1
  clear hr1 hc1
  have H := h
  unfold bytes_Equal.f at H
  clear h
  obtain rfl := sI H
  have hcvz1 := Kd.C_string (P := Try.prog) (A := A0) (c := c0) Try.underlying22 Try.underlying5 Try.underlying9 HR0.out
  have hcvz2 := Kd.C_string (P := Try.prog) (A := A1) (c := c1) Try.underlying22 Try.underlying5 Try.underlying9 HR1.out
  go_enter Try.func75, Try.ntmps75
  go_wp2
  go_ret
  exact ⟨by first | rfl | (simp; done) | (simp [*]; done), dX⟩
end Go.Proofs.Ytcedikpkbgofhaa.P2
namespace Go.Proofs.Ytcedikpkbgofhaa.P2
open Go.RowKit Go.Proofs.YtcedikpkbgofhaaW.PrintWords Go.Proofs.YtcedikpkbgofhaaW.PrintLast Go.Proofs.YtcedikpkbgofhaaW.PrintMore
attribute [local go_sem] max2_int min2_int max_two min_two max_three min_three max_four min_four   -- for this text's walks alone
mutual
def impl_TupleOf.j1 : Nat → List Int → List (S37) → Option ((List (S37)) × Bool)
  | 0, _, _ => none
  | k + 1, x0, x4 => (impl_TupleOk.f k x4).bind fun t114 => (if t114 = true then ((impl_TupleBytes.f k x4).bind fun t115 => ((bytes_Equal.f t115 x0).bind fun t118 => (if t118 = true then (some (x4, true)) else (some (([] : List (S37)), false))))) else (some (([] : List (S37)), false)))
def impl_TupleOf.l0 : Nat → List Int → List (S37) → List Int → Option ((List (S37)) × Bool)
  | 0, _, _, _ => none
  | k + 1, x0, x4, x5 => if (x5.length : Int) > 0 then (if (x4.length : Int) ≤ 4 then ((impl_takeValue.f k x5).bind fun bt104 => (if x4.length < 4398046511104 then (impl_TupleOf.l0 k x0 (x4 ++ [(⟨bt104.1, bt104.2.1, bt104.2.2.1⟩ : S37)]) bt104.2.2.2) else (none))) else (impl_TupleOf.j1 k x0 x4)) else (impl_TupleOf.j1 k x0 x4)
end
def impl_TupleOf.f (k : Nat) (l0 : List Int) : Option ((List (S37)) × Bool) := impl_TupleOf.l0 k l0 (([] : List (S37))) l0
set_option maxHeartbeats 8000000 in
set_option maxRecDepth 100000 in
theorem impl_TupleOf.calls (k : Nat) (P0_ : Nat → Prop) (A0 : Option Addr) (c0 : Nat) (l0 : List Int) (r1 : List (S37)) (r2 : Bool) (w : World) (hs0 : Kd.V (Kd.int .u8) 5 w w.heap.size (fun k_ => P0_ k_) (.slice A0 l0.length c0) l0) (h : impl_TupleOf.f k l0 = some (r1, r2)) :
    Calls Try.prog 40 #[.slice A0 l0.length c0] w fun e w' => ∃ v0_ : Value, e = .returned (.tuple #[v0_, .bool r2]) ∧ Kd.R k37 37 w' w.heap.size (fun k_ => (w.heap.size ≤ k_)) v0_ r1 ∧ Below w.heap.size w w' := by
  have hu37 := Try.underlying37
  have HO0 := Aside0.mk (show Kd.V (Kd.int .u8) 5 w w.heap.size (fun k_ => (P0_ k_ ∨ w.heap.size ≤ k_)) (.slice A0 l0.length c0) l0 from Kd.V_mono hs0 (fun k_ hk => .inl hk))
  have HB := Aside0.mk (Below.refl w.heap.size w)
  have H : (impl_TupleOf.l0 k l0 (([] : List (S37))) l0) = some (r1, r2) := h
  clear h
  obtain ⟨y101, hy101⟩ : ∃ y_ : List (S37), y_ = (([] : List (S37))) := ⟨_, rfl⟩
  replace H : (impl_TupleOf.l0 k l0 y101 l0) = some (r1, r2) := by first | (rw [hy101]; with_reducible exact H) | (have H2_ := (Option.bind_some _ _).symm.trans H; rw [hy101]; with_reducible exact H2_) | (have H2_ := (Option.bind_some _ _).symm.trans H; with_reducible exact H2_) | with_reducible exact H | (rw [hy101]; exact H) | exact H
  have Ny101 := Aside0.mk hy101
  clear hy101
  have HC2 := Aside0.mk H
  clear H
  go_enter Try.func40, Try.ntmps40
  go_upto_block 0 with (first | ((with_reducible refine gate_dst (N := 8) rfl ?_); (try (refine gate_guard (by rfl) ?_; dsimp only)); refine Kd.R_lit k37 _ 37 ?hg (N := 8) ?hd (xs := ([] : List (S37))) (inner := []) (ok := fun _ => True) (okp := fun _ => True) ?hr ?hp (fun _ hk => hk) trivial (Below.refl _ _) (Nat.le_refl _) (by simp) ?_; (case hd => rfl); (case hg => rfl); (case hr => first | (go_simp; done) | (go_simp; rfl)); (case hp => exact (Reps.none _ _)); intro v102 w3 ho4 hb hg_ hnew_; clear hg_ hnew_; (first | rw [← Ny101.out] at ho4 | (simp only [Int.reduceToNat] at ho4; rw [← Ny101.out] at ho4)); have n0_ := Aside0.mk (Kd.V_elder' (by (with_reducible repeat (first | apply Kd.V_alloc | apply Kd.V_drewN | apply Kd.V_drew)); exact HO0.out) (Kd.R_base ho4) hb); have n1_ := Aside0.mk (Kd.R_lower (Kd.R_newM (M := fun k_ => (w.heap.size ≤ k_)) ho4 (below_size (by repeat (first | (with_reducible first | exact HB.out | apply below_alloc | apply pw_below_drewN | apply below_drew1) | exact HB.out))) (fun k_ h_ => h_)) (below_size (by repeat (first | (with_reducible first | exact HB.out | apply below_alloc | apply pw_below_drewN | apply below_drew1) | exact HB.out)))); have n2_ := Aside0.mk (below_step (by repeat (first | (with_reducible first | exact HB.out | apply below_alloc | apply pw_below_drewN | apply below_drew1) | exact HB.out)) hb); clear HO0; clear HB; have HO0 := n0_; have HO103 := n1_; have HB := n2_; clear n0_ n1_ n2_; clear hb ho4))
  (try simp only [Act.put, List.setIfInBounds_toArray, List.set_cons_zero, List.set_cons_succ])
  go_cut [4] (fun v4 wc => ∃ (kq : Nat) (x4_1 : List (S37)), Aside0 (impl_TupleOf.j1 kq l0 x4_1 = some (r1, r2)) ∧ Aside0 (kq ≤ k) ∧ Aside0 (Kd.V (Kd.int .u8) 5 wc w.heap.size (fun k_ => (P0_ k_ ∨ w.heap.size ≤ k_) ∧ some k_ ≠ (v4 : Value).ownBlock) (.slice A0 l0.length c0) l0) ∧ Aside0 (Kd.R k37 37 wc w.heap.size (fun k_ => (w.heap.size ≤ k_)) v4 x4_1) ∧ Aside0 (Below w.heap.size w wc))
  case first =>
    have H := HC2.out
    clear HC2
    have H' := Aside0.mk H
    clear H
    go_wp2
    go_loopg [4, 5] k (fun kq v4 v5 w' => ∃ (x4_1 : List (S37)) (x5_1 : List Int), Aside0 (impl_TupleOf.l0 kq l0 x4_1 x5_1 = some (r1, r2)) ∧ Aside0 (kq ≤ k) ∧ Aside0 (Kd.V (Kd.int .u8) 5 w' w.heap.size (fun k_ => (P0_ k_ ∨ w.heap.size ≤ k_) ∧ some k_ ≠ (v4 : Value).ownBlock) (.slice A0 l0.length c0) l0) ∧ Aside0 (Kd.R k37 37 w' w.heap.size (fun k_ => (w.heap.size ≤ k_)) v4 x4_1) ∧ Aside0 (Kd.V (Kd.int .u8) 5 w' w.heap.size (fun k_ => (P0_ k_ ∨ w.heap.size ≤ k_) ∧ some k_ ≠ (v4 : Value).ownBlock) v5 x5_1) ∧ Aside0 (Below w.heap.size w w'))
    case atStart => exact ⟨(y101), (l0), H', ⟨Nat.le_refl _⟩, ⟨by (with_reducible repeat (first | apply Kd.V_alloc | apply Kd.V_drewN | apply Kd.V_drew)); exact HO0.out⟩, ⟨by (with_reducible repeat (first | apply Kd.R_alloc | apply Kd.R_drewN | apply Kd.R_drew)); exact Kd.R_mono HO103.out (fun _ hk => hk.1)⟩, ⟨by (with_reducible repeat (first | apply Kd.V_alloc | apply Kd.V_drewN | apply Kd.V_drew)); exact HO0.out⟩, ⟨by repeat (first | (with_reducible first | exact HB.out | apply below_alloc | apply pw_below_drewN | apply below_drew1) | exact HB.out)⟩⟩
    case round =>
      clear H'
      try clear p2
      try clear c4
      obtain ⟨x4_1, x5_1, HA, HK1, HO_0, HO_4, HO_5, HB⟩ := hrel
      cases gk with
      | zero => exact absurd HA.out (by simp [impl_TupleOf.l0])
      | succ k1 =>
        have H := HA.out
        clear HA
        simp only [impl_TupleOf.l0] at H
        by_cases c5 : (x5_1.length : Int) > 0
        · rw [if_pos c5] at H
          have c5b0 : decide (0 < (x5_1.length : Int)) = true := decide_eq_true c5
          have c5b1 : decide (0 < x5_1.length) = true := decide_eq_true (by omega)
          clear c5
          (first | rw [c5b0] | (simp only [i64_w, i32_w]; rw [c5b0]) | skip)
          by_cases c6 : (x4_1.length : Int) ≤ 4
          · rw [if_pos c6] at H
            have c6b0 : decide ((x4_1.length : Int) ≤ 4) = true := decide_eq_true c6
            have c6b1 : decide (x4_1.length ≤ 4) = true := decide_eq_true (by omega)
            clear c6
            replace H := Option.bind_eq_some_iff.mp H
            obtain ⟨⟨t104, t105, t106, t107⟩, A70, H⟩ := H
            replace H : (if x4_1.length < 4398046511104 then (impl_TupleOf.l0 k1 l0 (x4_1 ++ [(⟨t104, t105, t106⟩ : S37)]) t107) else (none)) = some (r1, r2) := H
            have A7 := Aside0.mk A70
            clear A70
            by_cases c8 : x4_1.length < 4398046511104
            · rw [if_pos c8] at H
              have LMc8 := Aside0.mk c8
              clear c8
              obtain ⟨y111, hy111⟩ : ∃ y_ : List (S37), y_ = (x4_1 ++ [(⟨t104, t105, t106⟩ : S37)]) := ⟨_, rfl⟩
              replace H : (impl_TupleOf.l0 k1 l0 y111 t107) = some (r1, r2) := by first | (rw [hy111]; with_reducible exact H) | (have H2_ := (Option.bind_some _ _).symm.trans H; rw [hy111]; with_reducible exact H2_) | (have H2_ := (Option.bind_some _ _).symm.trans H; with_reducible exact H2_) | with_reducible exact H | (rw [hy111]; exact H) | exact H
              have Ny111 := Aside0.mk hy111
              clear hy111
              have H' := Aside0.mk H
              clear H
              obtain ⟨Ao9, co9, eo9⟩ := Kd.V_slice HO_5.out
              subst eo9
              obtain ⟨Ao10, co10, eo10⟩ := Kd.R_slice HO_4.out
              subst eo10
              go_wp2_with (first | ((with_reducible refine gate_callee (f := 74) rfl ?_); refine goesL_ (some 20) rfl rfl Try.func74 (by kernel_rfl) rfl #[.slice Ao9 x5_1.length co9] rfl (by (try simp only [List.map_toArray, List.map_cons, List.map_nil]); first | done | rfl | (simp only [List.length_drop, List.length_take]; rfl)) ?_; (with_reducible refine (impl_takeValue.calls k1 (fun k_ => ((P0_ k_ ∨ w.heap.size ≤ k_) ∧ some k_ ≠ (.slice Ao10 x4_1.length co10 : Value).ownBlock)) _ _ x5_1 t104 t105 t106 t107 _ ?side1 A7.out).mono ?_); (case side1 => exact HO_5.out); rintro e w11 ⟨v108, rfl, ho0, hb⟩; refine ⟨_, rfl, ?_⟩; have n0_ := Aside0.mk (Kd.V_below (by (with_reducible repeat (first | apply Kd.V_alloc | apply Kd.V_drewN | apply Kd.V_drew)); exact HO_0.out) hb); have n1_ := Aside0.mk (Kd.R_below (by (with_reducible repeat (first | apply Kd.R_alloc | apply Kd.R_drewN | apply Kd.R_drew)); exact HO_4.out) hb); have n2_ := Aside0.mk (Kd.V_below (by (with_reducible repeat (first | apply Kd.V_alloc | apply Kd.V_drewN | apply Kd.V_drew)); exact HO_5.out) hb); have n3_ := Aside0.mk (Kd.V_lower (Kd.V_mono (ok' := fun k_ => (P0_ k_ ∨ w.heap.size ≤ k_) ∧ some k_ ≠ (.slice Ao10 x4_1.length co10 : Value).ownBlock) ho0 (fun k_ hk_ => ⟨Or.elim hk_ (fun hs_ => hs_.1) (fun hn_ => (.inr (Nat.le_trans (below_size (by repeat (first | (with_reducible first | exact HB.out | apply below_alloc | apply pw_below_drewN | apply below_drew1) | exact HB.out))) hn_))), Or.elim hk_ (fun hs_ => hs_.2) (fun hn_ => (Kd.fresh' (Kd.R_lt (by (with_reducible repeat (first | apply Kd.R_alloc | apply Kd.R_drewN | apply Kd.R_drew)); exact HO_4.out)) k_ hn_))⟩)) (below_size (by repeat (first | (with_reducible first | exact HB.out | apply below_alloc | apply pw_below_drewN | apply below_drew1) | exact HB.out)))); have n4_ := Aside0.mk (below_step (by repeat (first | (with_reducible first | exact HB.out | apply below_alloc | apply pw_below_drewN | apply below_drew1) | exact HB.out)) hb); clear HO_0; clear HO_4; clear HO_5; clear HB; have HO_0 := n0_; have HO_4 := n1_; have HO_5 := n2_; have HO109 := n3_; have HB := n4_; clear n0_ n1_ n2_ n3_ n4_; (try clear hb); (try clear hb2); (try clear hk); (try clear hi); (try clear ho0)) | ((with_reducible refine gate_dst (N := 6) rfl ?_); (try (refine gate_guard (by rfl) ?_; dsimp only)); refine box_event ?hg (N := 6) ?hd (cs := #[.int .i64 0, .int .i64 0, .string (⟨#[]⟩ : ByteArray)]) (t := 37) ?hr ?_; (case hd => rfl); (case hg => rfl); (case hr => first | (go_simp; done) | (go_simp; rfl)); intro gb110 hg w12 hbox hb; have n0_ := Aside0.mk (Kd.V_below (Kd.V_elderB (by (with_reducible repeat (first | apply Kd.V_alloc | apply Kd.V_drewN | apply Kd.V_drew)); exact HO_0.out) gb110 (Nat.le_of_eq hg.symm)) hb); have n1_ := Aside0.mk (Kd.R_below (Kd.R_elderB (by (with_reducible repeat (first | apply Kd.R_alloc | apply Kd.R_drewN | apply Kd.R_drew)); exact HO_4.out) gb110 (Nat.le_of_eq hg.symm)) hb); have n2_ := Aside0.mk (Kd.V_below (Kd.V_elderB (by (with_reducible repeat (first | apply Kd.V_alloc | apply Kd.V_drewN | apply Kd.V_drew)); exact HO_5.out) gb110 (Nat.le_of_eq hg.symm)) hb); have n3_ := Aside0.mk (Kd.V_below (Kd.V_elderB (by (with_reducible repeat (first | apply Kd.V_alloc | apply Kd.V_drewN | apply Kd.V_drew)); exact HO109.out) gb110 (Nat.le_of_eq hg.symm)) hb); have n4_ := Aside0.mk (below_step (by repeat (first | (with_reducible first | exact HB.out | apply below_alloc | apply pw_below_drewN | apply below_drew1) | exact HB.out)) hb); have n5_ := Aside0.mk (hbox); have n6_ := Aside0.mk ((by rw [hg]; exact (below_size (by repeat (first | (with_reducible first | exact HB.out | apply below_alloc | apply pw_below_drewN | apply below_drew1) | exact HB.out))) : w.heap.size ≤ gb110)); have n7_ := Aside0.mk ((by rw [hg]; exact (below_size (by repeat (first | (with_reducible first | exact HB.out | apply below_alloc | apply pw_below_drewN | apply below_drew1) | exact HB.out))) : w.heap.size ≤ gb110)); clear HO_0; clear HO_4; clear HO_5; clear HO109; clear HB; have HO_0 := n0_; have HO_4 := n1_; have HO_5 := n2_; have HO109 := n3_; have HB := n4_; have BK110 := n5_; have GW110 := n6_; have GE110 := n7_; clear n0_ n1_ n2_ n3_ n4_ n5_ n6_ n7_; clear hb hbox hg; have hcz13_0 : w12.cell? ⟨gb110, 0, none⟩ = some (.int .i64 0) := (blk_cell BK110.out 0).trans rfl; have hcz13_1 : w12.cell? ⟨gb110, 1, none⟩ = some (.int .i64 0) := (blk_cell BK110.out 1).trans rfl; have hcz13_2 : w12.cell? ⟨gb110, 2, none⟩ = some (.string (⟨#[]⟩ : ByteArray)) := (blk_cell BK110.out 2).trans rfl; have hfz13_0 := blk_frozen BK110.out 0; have hfz13_1 := blk_frozen BK110.out 1; have hfz13_2 := blk_frozen BK110.out 2) | ((with_reducible refine gate_builtin (b := .append) (xs := #[.tmp 23, .tmp 25]) rfl ?_); (try (refine gate_guard (by rfl) ?_; dsimp only)); at_builtin; refine Kd.R_append k37 (w0 := w) w.heap.size rfl (.tmp 23) (.tmp 25) 24 37 (.agg #[(.int .i64 0), (.int .i64 0), (.string ⟨#[]⟩)]) 32 rfl Try.underlying24 info37 rfl (by decide) (by omega) (.slice Ao10 x4_1.length co10) x4_1 (⟨t104, t105, t106⟩ : S37) [.int .i64 t104, .int .i64 t105, .string t106] (fun k_ => (w.heap.size ≤ k_) ∧ k_ ≠ gb110) (fun _ => False) rfl (by first | (go_simp; done) | (go_simp; rfl)) ?aP (fun _ hk => hk.elim) ?aF ?aO ?aB ?aS ?aL ?_; (case aP => exact k37_mkM _ _ _ (⟨t104, t105, t106⟩ : S37)); (case aB => exact (by repeat (first | (with_reducible first | exact HB.out | apply below_alloc | apply pw_below_drewN | apply below_drew1 | refine below_set ?_ GE110.out) | exact HB.out))); (case aF => exact (fun k_ hk => ⟨(Nat.le_trans (below_size (by repeat (first | (with_reducible first | exact HB.out | apply below_alloc | apply pw_below_drewN | apply below_drew1 | refine below_set ?_ GE110.out) | exact HB.out))) hk), Kd.freshB (g := gb110) (o := .cells #[.int .i64 t104, .int .i64 t105, .string t106] 37 (0, 0)) (by (with_reducible repeat (first | refine blk_drewN ?_ _ | refine blk_drew ?_ | refine blk_alloc ?_ _)); refine blk_put (cs := #[.int .i64 t104, .int .i64 t105, .string (⟨#[]⟩ : ByteArray)]) ?_ 2 _ rfl; (with_reducible repeat (first | refine blk_drewN ?_ _ | refine blk_drew ?_ | refine blk_alloc ?_ _)); refine blk_put (cs := #[.int .i64 t104, .int .i64 0, .string (⟨#[]⟩ : ByteArray)]) ?_ 1 _ rfl; (with_reducible repeat (first | refine blk_drewN ?_ _ | refine blk_drew ?_ | refine blk_alloc ?_ _)); refine blk_put (cs := #[.int .i64 0, .int .i64 0, .string (⟨#[]⟩ : ByteArray)]) ?_ 0 _ rfl; (with_reducible repeat (first | refine blk_drewN ?_ _ | refine blk_drew ?_ | refine blk_alloc ?_ _)); exact BK110.out) k_ hk⟩)); (case aO => exact (by (with_reducible repeat (first | apply Kd.R_alloc | apply Kd.R_drewN | apply Kd.R_drew)); exact Kd.R_mono (Kd.R_far (p := ⟨gb110, 2, none⟩) (Kd.R_far (p := ⟨gb110, 1, none⟩) (Kd.R_far (p := ⟨gb110, 0, none⟩) (Kd.R_mono HO_4.out (fun k_ hk => (⟨hk, hk.2⟩ : _ ∧ k_ ≠ gb110))) (fun _ hk => hk.2) (.int .i64 t104)) (fun _ hk => hk.2) (.int .i64 t105)) (fun _ hk => hk.2) (.string t106)) (fun _ hk => ⟨hk.1.1, hk.1.2⟩))); (case aS => exact (below_size (by repeat (first | (with_reducible first | exact HB.out | apply below_alloc | apply pw_below_drewN | apply below_drew1 | refine below_set ?_ GE110.out) | exact HB.out)))); (case aL => have := LMc8.out; omega); intro v112 w14 ho hb hg hat; rw [← Ny111.out] at ho; have n0_ := Aside0.mk (Kd.V_afterv (ok := (fun k_ => (P0_ k_ ∨ w.heap.size ≤ k_) ∧ k_ ≠ gb110)) (by (with_reducible repeat (first | apply Kd.V_alloc | apply Kd.V_drewN | apply Kd.V_drew)); exact Kd.V_mono (Kd.V_far (p := ⟨gb110, 2, none⟩) (Kd.V_far (p := ⟨gb110, 1, none⟩) (Kd.V_far (p := ⟨gb110, 0, none⟩) (Kd.V_mono HO_0.out (fun k_ hk => (⟨hk, hk.2⟩ : _ ∧ k_ ≠ gb110))) (fun _ hk => hk.2) (.int .i64 t104)) (fun _ hk => hk.2) (.int .i64 t105)) (fun _ hk => hk.2) (.string t106)) (fun _ hk => ⟨⟨hk.1.1.1, hk.1.2⟩, hk.1.1.2⟩)) hg hat); have n1_ := Aside0.mk (Kd.V_afterv (ok := (fun k_ => (P0_ k_ ∨ w.heap.size ≤ k_) ∧ k_ ≠ gb110)) (by (with_reducible repeat (first | apply Kd.V_alloc | apply Kd.V_drewN | apply Kd.V_drew)); exact Kd.V_mono (Kd.V_far (p := ⟨gb110, 2, none⟩) (Kd.V_far (p := ⟨gb110, 1, none⟩) (Kd.V_far (p := ⟨gb110, 0, none⟩) (Kd.V_mono HO_5.out (fun k_ hk => (⟨hk, hk.2⟩ : _ ∧ k_ ≠ gb110))) (fun _ hk => hk.2) (.int .i64 t104)) (fun _ hk => hk.2) (.int .i64 t105)) (fun _ hk => hk.2) (.string t106)) (fun _ hk => ⟨⟨hk.1.1.1, hk.1.2⟩, hk.1.1.2⟩)) hg hat); have n2_ := Aside0.mk (Kd.V_afterv (ok := (fun k_ => (P0_ k_ ∨ w.heap.size ≤ k_) ∧ k_ ≠ gb110)) (by (with_reducible repeat (first | apply Kd.V_alloc | apply Kd.V_drewN | apply Kd.V_drew)); exact Kd.V_mono (Kd.V_far (p := ⟨gb110, 2, none⟩) (Kd.V_far (p := ⟨gb110, 1, none⟩) (Kd.V_far (p := ⟨gb110, 0, none⟩) (Kd.V_mono HO109.out (fun k_ hk => (⟨hk, hk.2⟩ : _ ∧ k_ ≠ gb110))) (fun _ hk => hk.2) (.int .i64 t104)) (fun _ hk => hk.2) (.int .i64 t105)) (fun _ hk => hk.2) (.string t106)) (fun _ hk => ⟨⟨hk.1.1.1, hk.1.2⟩, hk.1.1.2⟩)) hg hat); have n3_ := Aside0.mk (blk_grown (g := gb110) (o := .cells #[.int .i64 t104, .int .i64 t105, .string t106] 37 (0, 0)) (by (with_reducible repeat (first | refine blk_drewN ?_ _ | refine blk_drew ?_ | refine blk_alloc ?_ _)); refine blk_put (cs := #[.int .i64 t104, .int .i64 t105, .string (⟨#[]⟩ : ByteArray)]) ?_ 2 _ rfl; (with_reducible repeat (first | refine blk_drewN ?_ _ | refine blk_drew ?_ | refine blk_alloc ?_ _)); refine blk_put (cs := #[.int .i64 t104, .int .i64 0, .string (⟨#[]⟩ : ByteArray)]) ?_ 1 _ rfl; (with_reducible repeat (first | refine blk_drewN ?_ _ | refine blk_drew ?_ | refine blk_alloc ?_ _)); refine blk_put (cs := #[.int .i64 0, .int .i64 0, .string (⟨#[]⟩ : ByteArray)]) ?_ 0 _ rfl; (with_reducible repeat (first | refine blk_drewN ?_ _ | refine blk_drew ?_ | refine blk_alloc ?_ _)); exact BK110.out) hg (Kd.R_away HO_4.out (fun _ hk => hk.2))); have n4_ := Aside0.mk (hb); have n5_ := Aside0.mk (ho); clear HO_0; clear HO_5; clear HO109; clear BK110; clear HB; clear HO_4; have HO_0 := n0_; have HO_5 := n1_; have HO109 := n2_; have BK110 := n3_; have HB := n4_; have HO113 := n5_; clear n0_ n1_ n2_ n3_ n4_ n5_; clear ho hb hg hat))
              go_roundg k1
              case measure => have := HK1.out; omega
              case rel => exact ⟨(y111), (t107), H', ⟨by have := HK1.out; omega⟩, ⟨by (with_reducible repeat (first | apply Kd.V_alloc | apply Kd.V_drewN | apply Kd.V_drew)); exact Kd.V_mono HO_0.out (fun _ hk => ⟨hk.1.1, hk.2⟩)⟩, ⟨by (with_reducible repeat (first | apply Kd.R_alloc | apply Kd.R_drewN | apply Kd.R_drew)); exact Kd.R_mono HO113.out (fun _ hk => hk.1)⟩, ⟨by (with_reducible repeat (first | apply Kd.V_alloc | apply Kd.V_drewN | apply Kd.V_drew)); exact Kd.V_mono HO109.out (fun _ hk => ⟨hk.1.1, hk.2⟩)⟩, ⟨by repeat (first | (with_reducible first | exact HB.out | apply below_alloc | apply pw_below_drewN | apply below_drew1 | refine below_set ?_ GE110.out) | exact HB.out)⟩⟩
            · rw [if_neg c8] at H
              exact absurd H (by simp)
          · rw [if_neg c6] at H
            have c6b0 : decide ((x4_1.length : Int) ≤ 4) = false := decide_eq_false c6
            have c6b1 : decide (x4_1.length ≤ 4) = false := decide_eq_false (by omega)
            clear c6
            have H' := Aside0.mk H
            clear H
            obtain ⟨Ao15, co15, eo15⟩ := Kd.V_slice HO_5.out
            subst eo15
            obtain ⟨Ao16, co16, eo16⟩ := Kd.R_slice HO_4.out
            subst eo16
            go_wp2
            go_meet
            case rel => exact ⟨_, (x4_1), H', ⟨by have := HK1.out; first | omega | exact Nat.le_refl _⟩, ⟨by (with_reducible repeat (first | apply Kd.V_alloc | apply Kd.V_drewN | apply Kd.V_drew)); exact HO_0.out⟩, ⟨by (with_reducible repeat (first | apply Kd.R_alloc | apply Kd.R_drewN | apply Kd.R_drew)); exact HO_4.out⟩, ⟨by repeat (first | (with_reducible first | exact HB.out | apply below_alloc | apply pw_below_drewN | apply below_drew1) | exact HB.out)⟩⟩
        · rw [if_neg c5] at H
          have c5b0 : decide (0 < (x5_1.length : Int)) = false := decide_eq_false c5
          have c5b1 : decide (0 < x5_1.length) = false := decide_eq_false (by omega)
          clear c5
          (first | rw [c5b0] | (simp only [i64_w, i32_w]; rw [c5b0]) | skip)
          have H' := Aside0.mk H
          clear H
          obtain ⟨Ao17, co17, eo17⟩ := Kd.V_slice HO_5.out
          subst eo17
          go_wp2
          go_meet
          case rel => exact ⟨_, (x4_1), H', ⟨by have := HK1.out; first | omega | exact Nat.le_refl _⟩, ⟨by (with_reducible repeat (first | apply Kd.V_alloc | apply Kd.V_drewN | apply Kd.V_drew)); exact HO_0.out⟩, ⟨by (with_reducible repeat (first | apply Kd.R_alloc | apply Kd.R_drewN | apply Kd.R_drew)); exact HO_4.out⟩, ⟨by repeat (first | (with_reducible first | exact HB.out | apply below_alloc | apply pw_below_drewN | apply below_drew1) | exact HB.out)⟩⟩
  case rest =>
    clear HC2
    try clear p2
    try clear c4
    try clear c5
    try clear c5b0
    try clear c5b1
    try clear c6
    try clear c6b0
    try clear c6b1
    try clear c7
    try clear c8
    try clear hcz13_0
    try clear hcz13_1
    try clear hcz13_2
    try clear hfz13_0
    try clear hfz13_1
    try clear hfz13_2
    try clear p2
    obtain ⟨kq, x4_1, HA, HJ1, HO_0, HO_4, HB⟩ := hcut
    cases kq with
    | zero => exact absurd HA.out (by simp [impl_TupleOf.j1])
    | succ kj1 =>
      have H := HA.out
      clear HA
      simp only [impl_TupleOf.j1] at H
      replace H := Option.bind_eq_some_iff.mp H
      obtain ⟨t114, A180, H⟩ := H
      replace H : (if t114 = true then ((impl_TupleBytes.f kj1 x4_1).bind fun t115 => ((bytes_Equal.f t115 l0).bind fun t118 => (if t118 = true then (some (x4_1, true)) else (some (([] : List (S37)), false))))) else (some (([] : List (S37)), false))) = some (r1, r2) := H
      have A18 := Aside0.mk A180
      clear A180
      by_cases c19 : t114 = true
      · subst c19
        have H1 : ((impl_TupleBytes.f kj1 x4_1).bind fun t115 => ((bytes_Equal.f t115 l0).bind fun t118 => (if t118 = true then (some (x4_1, true)) else (some (([] : List (S37)), false))))) = some (r1, r2) := by rw [if_pos rfl] at H; exact H
        clear H
        have H := H1
        clear H1
        replace H := Option.bind_eq_some_iff.mp H
        obtain ⟨t115, A200, H⟩ := H
        replace H : ((bytes_Equal.f t115 l0).bind fun t118 => (if t118 = true then (some (x4_1, true)) else (some (([] : List (S37)), false)))) = some (r1, r2) := H
        have A20 := Aside0.mk A200
        clear A200
        replace H := Option.bind_eq_some_iff.mp H
        obtain ⟨t118, A210, H⟩ := H
        replace H : (if t118 = true then (some (x4_1, true)) else (some (([] : List (S37)), false))) = some (r1, r2) := H
        have A21 := Aside0.mk A210
        clear A210
        by_cases c22 : t118 = true
        · subst c22
          have H1 : (some (x4_1, true)) = some (r1, r2) := by rw [if_pos rfl] at H; exact H
          clear H
          have H := H1
          clear H1
          simp only [Option.some.injEq, Prod.mk.injEq] at H
          obtain ⟨rfl, rfl⟩ := H
          obtain ⟨Ao23, co23, eo23⟩ := Kd.R_slice HO_4.out
          subst eo23
          go_wp2_with (first | ((with_reducible refine gate_callee (f := 13) rfl ?_); refine goesL_ (some 29) rfl rfl Try.func13 (by kernel_rfl) rfl #[.slice Ao23 x4_1.length co23] rfl (by (try simp only [List.map_toArray, List.map_cons, List.map_nil]); first | done | rfl | (simp only [List.length_drop, List.length_take]; rfl)) ?_; (with_reducible refine (impl_TupleOk.calls kj1 _ _ x4_1 true _ ?side1 ?side2 A18.out).mono ?_); (case side1 => repeat (first | exact (Kd.R_reads' HO_4.out).2.2 | (with_reducible refine Kd.C_alloc ?_ _) | (with_reducible refine Kd.C_drewN ?_ _) | (with_reducible refine Kd.C_drew ?_))); (case side2 => exact (Kd.R_reads' HO_4.out).2.1); rintro e w24 ⟨rfl, hb⟩; refine ⟨_, rfl, ?_⟩; have n0_ := Aside0.mk (Kd.V_below (by (with_reducible repeat (first | apply Kd.V_alloc | apply Kd.V_drewN | apply Kd.V_drew)); exact HO_0.out) hb); have n1_ := Aside0.mk (Kd.R_below (by (with_reducible repeat (first | apply Kd.R_alloc | apply Kd.R_drewN | apply Kd.R_drew)); exact HO_4.out) hb); have n2_ := Aside0.mk (below_step (by repeat (first | (with_reducible first | exact HB.out | apply below_alloc | apply pw_below_drewN | apply below_drew1) | exact HB.out)) hb); clear HO_0; clear HO_4; clear HB; have HO_0 := n0_; have HO_4 := n1_; have HB := n2_; clear n0_ n1_ n2_; (try clear hb); (try clear hb2); (try clear hk); (try clear hi)) | (go_at_call 14; (with_reducible refine (impl_TupleBytes.calls kj1 _ _ x4_1 t115 _ ?side1 ?side2 A20.out).mono ?_); (case side1 => repeat (first | exact (Kd.R_reads' HO_4.out).2.2 | (with_reducible refine Kd.C_alloc ?_ _) | (with_reducible refine Kd.C_drewN ?_ _) | (with_reducible refine Kd.C_drew ?_))); (case side2 => exact (Kd.R_reads' HO_4.out).2.1); rintro e w25 ⟨v116, rfl, ho0, hb⟩; have n0_ := Aside0.mk (Kd.V_elder' (by (with_reducible repeat (first | apply Kd.V_alloc | apply Kd.V_drewN | apply Kd.V_drew)); exact HO_0.out) (Kd.R_base ho0) hb); have n1_ := Aside0.mk (Kd.R_below (by (with_reducible repeat (first | apply Kd.R_alloc | apply Kd.R_drewN | apply Kd.R_drew)); exact HO_4.out) hb); have n2_ := Aside0.mk (Kd.R_lower (Kd.R_newM (M := fun k_ => (w.heap.size ≤ k_)) ho0 (below_size (by repeat (first | (with_reducible first | exact HB.out | apply below_alloc | apply pw_below_drewN | apply below_drew1) | exact HB.out))) (fun k_ h_ => h_)) (below_size (by repeat (first | (with_reducible first | exact HB.out | apply below_alloc | apply pw_below_drewN | apply below_drew1) | exact HB.out)))); have n3_ := Aside0.mk (below_step (by repeat (first | (with_reducible first | exact HB.out | apply below_alloc | apply pw_below_drewN | apply below_drew1) | exact HB.out)) hb); clear HO_0; clear HO_4; clear HB; have HO_0 := n0_; have HO_4 := n1_; have HO117 := n2_; have HB := n3_; clear n0_ n1_ n2_ n3_; (try clear hb); (try clear hb2); (try clear hk); (try clear hi); (try clear ho0); obtain ⟨Ao26, co26, eo26⟩ := Kd.R_slice HO117.out; subst eo26) | (go_at_call 75; (with_reducible refine (bytes_Equal.calls _ _ t115 _ _ l0 true _ ?side1 ?side2 ?side3 ?side4 A21.out).mono ?_); (case side1 => repeat (first | exact (Kd.R_reads' HO117.out).2.2 | (with_reducible refine Kd.C_alloc ?_ _) | (with_reducible refine Kd.C_drewN ?_ _) | (with_reducible refine Kd.C_drew ?_))); (case side2 => exact (Kd.R_reads' HO117.out).2.1); (case side3 => repeat (first | exact (Kd.V_reads' HO_0.out).2.2 | (with_reducible refine Kd.C_alloc ?_ _) | (with_reducible refine Kd.C_drewN ?_ _) | (with_reducible refine Kd.C_drew ?_))); (case side4 => exact (Kd.V_reads' HO_0.out).2.1); rintro e w' ⟨rfl, ⟨nd, rfl⟩⟩))
          go_ret2
          exact ⟨_, by first | rfl | (simp [errW_none, errW_some] <;> rfl) | (simp [*, errW_none, errW_some] <;> rfl), by (with_reducible repeat (first | apply Kd.R_alloc | apply Kd.R_drewN | apply Kd.R_drew)); exact HO_4.out, by repeat (first | (with_reducible first | exact HB.out | apply below_alloc | apply pw_below_drewN | apply below_drew1) | exact HB.out)⟩
        · replace c22 := Bool.eq_false_iff.mpr c22
          subst c22
          have H1 : (some (([] : List (S37)), false)) = some (r1, r2) := by rw [if_neg (show ¬ (false = true) by decide)] at H; exact H
          clear H
          have H := H1
          clear H1
          simp only [Option.some.injEq, Prod.mk.injEq] at H
          obtain ⟨rfl, rfl⟩ := H
          obtain ⟨Ao27, co27, eo27⟩ := Kd.R_slice HO_4.out
          subst eo27
          go_wp2_with (first | ((with_reducible refine gate_callee (f := 13) rfl ?_); refine goesL_ (some 29) rfl rfl Try.func13 (by kernel_rfl) rfl #[.slice Ao27 x4_1.length co27] rfl (by (try simp only [List.map_toArray, List.map_cons, List.map_nil]); first | done | rfl | (simp only [List.length_drop, List.length_take]; rfl)) ?_; (with_reducible refine (impl_TupleOk.calls kj1 _ _ x4_1 true _ ?side1 ?side2 A18.out).mono ?_); (case side1 => repeat (first | exact (Kd.R_reads' HO_4.out).2.2 | (with_reducible refine Kd.C_alloc ?_ _) | (with_reducible refine Kd.C_drewN ?_ _) | (with_reducible refine Kd.C_drew ?_))); (case side2 => exact (Kd.R_reads' HO_4.out).2.1); rintro e w28 ⟨rfl, hb⟩; refine ⟨_, rfl, ?_⟩; have n0_ := Aside0.mk (Kd.V_below (by (with_reducible repeat (first | apply Kd.V_alloc | apply Kd.V_drewN | apply Kd.V_drew)); exact HO_0.out) hb); have n1_ := Aside0.mk (Kd.R_below (by (with_reducible repeat (first | apply Kd.R_alloc | apply Kd.R_drewN | apply Kd.R_drew)); exact HO_4.out) hb); have n2_ := Aside0.mk (below_step (by repeat (first | (with_reducible first | exact HB.out | apply below_alloc | apply pw_below_drewN | apply below_drew1) | exact HB.out)) hb); clear HO_0; clear HO_4; clear HB; have HO_0 := n0_; have HO_4 := n1_; have HB := n2_; clear n0_ n1_ n2_; (try clear hb); (try clear hb2); (try clear hk); (try clear hi)) | (go_at_call 14; (with_reducible refine (impl_TupleBytes.calls kj1 _ _ x4_1 t115 _ ?side1 ?side2 A20.out).mono ?_); (case side1 => repeat (first | exact (Kd.R_reads' HO_4.out).2.2 | (with_reducible refine Kd.C_alloc ?_ _) | (with_reducible refine Kd.C_drewN ?_ _) | (with_reducible refine Kd.C_drew ?_))); (case side2 => exact (Kd.R_reads' HO_4.out).2.1); rintro e w29 ⟨v116, rfl, ho0, hb⟩; have n0_ := Aside0.mk (Kd.V_elder' (by (with_reducible repeat (first | apply Kd.V_alloc | apply Kd.V_drewN | apply Kd.V_drew)); exact HO_0.out) (Kd.R_base ho0) hb); have n1_ := Aside0.mk (Kd.R_below (by (with_reducible repeat (first | apply Kd.R_alloc | apply Kd.R_drewN | apply Kd.R_drew)); exact HO_4.out) hb); have n2_ := Aside0.mk (Kd.R_lower (Kd.R_newM (M := fun k_ => (w.heap.size ≤ k_)) ho0 (below_size (by repeat (first | (with_reducible first | exact HB.out | apply below_alloc | apply pw_below_drewN | apply below_drew1) | exact HB.out))) (fun k_ h_ => h_)) (below_size (by repeat (first | (with_reducible first | exact HB.out | apply below_alloc | apply pw_below_drewN | apply below_drew1) | exact HB.out)))); have n3_ := Aside0.mk (below_step (by repeat (first | (with_reducible first | exact HB.out | apply below_alloc | apply pw_below_drewN | apply below_drew1) | exact HB.out)) hb); clear HO_0; clear HO_4; clear HB; have HO_0 := n0_; have HO_4 := n1_; have HO117 := n2_; have HB := n3_; clear n0_ n1_ n2_ n3_; (try clear hb); (try clear hb2); (try clear hk); (try clear hi); (try clear ho0); obtain ⟨Ao30, co30, eo30⟩ := Kd.R_slice HO117.out; subst eo30) | (go_at_call 75; (with_reducible refine (bytes_Equal.calls _ _ t115 _ _ l0 false _ ?side1 ?side2 ?side3 ?side4 A21.out).mono ?_); (case side1 => repeat (first | exact (Kd.R_reads' HO117.out).2.2 | (with_reducible refine Kd.C_alloc ?_ _) | (with_reducible refine Kd.C_drewN ?_ _) | (with_reducible refine Kd.C_drew ?_))); (case side2 => exact (Kd.R_reads' HO117.out).2.1); (case side3 => repeat (first | exact (Kd.V_reads' HO_0.out).2.2 | (with_reducible refine Kd.C_alloc ?_ _) | (with_reducible refine Kd.C_drewN ?_ _) | (with_reducible refine Kd.C_drew ?_))); (case side4 => exact (Kd.V_reads' HO_0.out).2.1); rintro e w' ⟨rfl, ⟨nd, rfl⟩⟩))
          go_ret2
          exact ⟨(Value.slice none 0 0), by first | rfl | (simp [errW_none, errW_some] <;> rfl) | (simp [*, errW_none, errW_some] <;> rfl), (by first | exact Kd.R_nil _ _ _ _ _ | exact Kd.S_nil _ _ _ _ _ | exact Kd.V_nil _ _ _ _ _ | exact Kd.N_nil _ _ _ _ _ | exact Kd.Q_nil _ _ _ _ _), by repeat (first | (with_reducible first | exact HB.out | apply below_alloc | apply pw_below_drewN | apply below_drew1) | exact HB.out)⟩
      · replace c19 := Bool.eq_false_iff.mpr c19
        subst c19
        have H1 : (some (([] : List (S37)), false)) = some (r1, r2) := by rw [if_neg (show ¬ (false = true) by decide)] at H; exact H
        clear H
        have H := H1
        clear H1
        simp only [Option.some.injEq, Prod.mk.injEq] at H
        obtain ⟨rfl, rfl⟩ := H
        obtain ⟨Ao31, co31, eo31⟩ := Kd.R_slice HO_4.out
        subst eo31
        go_wp2_with (first | ((with_reducible refine gate_callee (f := 13) rfl ?_); refine goesL_ (some 29) rfl rfl Try.func13 (by kernel_rfl) rfl #[.slice Ao31 x4_1.length co31] rfl (by (try simp only [List.map_toArray, List.map_cons, List.map_nil]); first | done | rfl | (simp only [List.length_drop, List.length_take]; rfl)) ?_; (with_reducible refine (impl_TupleOk.calls kj1 _ _ x4_1 false _ ?side1 ?side2 A18.out).mono ?_); (case side1 => repeat (first | exact (Kd.R_reads' HO_4.out).2.2 | (with_reducible refine Kd.C_alloc ?_ _) | (with_reducible refine Kd.C_drewN ?_ _) | (with_reducible refine Kd.C_drew ?_))); (case side2 => exact (Kd.R_reads' HO_4.out).2.1); rintro e w32 ⟨rfl, hb⟩; refine ⟨_, rfl, ?_⟩; have n0_ := Aside0.mk (Kd.V_below (by (with_reducible repeat (first | apply Kd.V_alloc | apply Kd.V_drewN | apply Kd.V_drew)); exact HO_0.out) hb); have n1_ := Aside0.mk (Kd.R_below (by (with_reducible repeat (first | apply Kd.R_alloc | apply Kd.R_drewN | apply Kd.R_drew)); exact HO_4.out) hb); have n2_ := Aside0.mk (below_step (by repeat (first | (with_reducible first | exact HB.out | apply below_alloc | apply pw_below_drewN | apply below_drew1) | exact HB.out)) hb); clear HO_0; clear HO_4; clear HB; have HO_0 := n0_; have HO_4 := n1_; have HB := n2_; clear n0_ n1_ n2_; (try clear hb); (try clear hb2); (try clear hk); (try clear hi)))
        go_ret2
        exact ⟨(Value.slice none 0 0), by first | rfl | (simp [errW_none, errW_some] <;> rfl) | (simp [*, errW_none, errW_some] <;> rfl), (by first | exact Kd.R_nil _ _ _ _ _ | exact Kd.S_nil _ _ _ _ _ | exact Kd.V_nil _ _ _ _ _ | exact Kd.N_nil _ _ _ _ _ | exact Kd.Q_nil _ _ _ _ _), by repeat (first | (with_reducible first | exact HB.out | apply below_alloc | apply pw_below_drewN | apply below_drew1) | exact HB.out)⟩
end Go.Proofs.Ytcedikpkbgofhaa.P2
namespace Go.Proofs.Ytcedikpkbgofhaa.P2
open Go.Proofs.YtcedikpkbgofhaaZ Go.RowKit Go.Proofs.YtcedikpkbgofhaaW.PrintWords Go.Proofs.YtcedikpkbgofhaaW.PrintLast Go.Proofs.YtcedikpkbgofhaaW.PrintMore
attribute [local go_sem] max2_int min2_int max_two min_two max_three min_three max_four min_four   -- for this text's walks alone
mutual
def spec_l18Text.l0 : Nat → List Int → Int → List Int → Option (ByteArray × Int)
  | 0, _, _, _ => none
  | k + 1, x0, x1, x6 => if (wrap64 (x1 + 1)) < (x0.length : Int) then (if 0 ≤ x1 then (if x1 < (x0.length : Int) then (if (rd x0 x1) = 0 then (if 0 ≤ (wrap64 (x1 + 1)) then (spec_l18Text.j1 k x0 x1 x6 ((rd x0 (wrap64 (x1 + 1))) == 1)) else (none)) else (spec_l18Text.j1 k x0 x1 x6 false)) else (none)) else (none)) else (some ((⟨#[]⟩ : ByteArray), wrap64 ((x0.length : Int) + 1)))
def spec_l18Text.j1 : Nat → List Int → Int → List Int → Bool → Option (ByteArray × Int)
  | 0, _, _, _, _ => none
  | k + 1, x0, x1, x6, x25 => if x25 = true then (some (strOfNums x6, wrap64 (x1 + 2))) else (if 0 ≤ x1 then (if x1 < (x0.length : Int) then (if x6.length < 140737488355328 then ((some (x6 ++ [rd x0 x1] : List Int)).bind fun y107 => (if (rd x0 x1) = 0 then (spec_l18Text.l0 k x0 (wrap64 ((wrap64 (x1 + 1)) + 1)) y107) else (spec_l18Text.l0 k x0 (wrap64 (x1 + 1)) y107))) else (none)) else (none)) else (none))
end
def spec_l18Text.f (k : Nat) (l0 : List Int) (a1 : Int) : Option (ByteArray × Int) := spec_l18Text.l0 k l0 a1 (([] : List Int))
set_option maxHeartbeats 8000000 in
set_option maxRecDepth 100000 in
theorem spec_l18Text.calls (k : Nat) (A0 : Option Addr) (c0 : Nat) (l0 : List Int) (a1 : Int) (r1 : ByteArray) (r2 : Int) (w : World) (hr0 : Kd.C (Kd.int .u8) w A0 l0.length l0) (hc0 : l0.length ≤ c0) (h : spec_l18Text.f k l0 a1 = some (r1, r2)) :
    Calls Try.prog 90 #[.slice A0 l0.length c0, .int .i64 a1] w fun e w' => e = .returned (.tuple #[.string r1, .int .i64 r2]) ∧ Below w.heap.size w w' := by
  have HR0 := aM hr0
  have HC0 := aM hc0
  clear hr0 hc0
  have HB := aM (Below.refl w.heap.size w)
  have H := h
  unfold spec_l18Text.f at H
  clear h
  obtain ⟨y101, hy101⟩ : ∃ y_ : List Int, y_ = (([] : List Int)) := ⟨_, rfl⟩
  replace H : (spec_l18Text.l0 k l0 a1 y101) = some (r1, r2) := yH H hy101
  have Ny101 := aM hy101
  clear hy101
  have H' := aM H
  clear H
  go_enter Try.func90, Try.ntmps90
  go_wp2_with (first | ((with_reducible refine gate_dst (N := 7) rfl ?_); refine Kd.R_lit (Kd.int .u8) _ 5 ?hg (N := 7) ?hd (xs := ([] : List Int)) (inner := []) (ok := fun _ => True) (okp := fun _ => True) ?hr ?hp (fun _ hk => hk) trivial (Below.refl _ _) (Nat.le_refl _) (by simp) ?_; (case hd => rfl); (case hg => rfl); (case hr => first | (go_simp; done) | (go_simp; rfl)); (case hp => exact (Reps.none _ _)); intro vz1 wz1 hoz1 hb hg_ hnew_; clear hg_ hnew_; (first | rw [← Ny101.out] at hoz1 | (simp only [Int.reduceToNat] at hoz1; rw [← Ny101.out] at hoz1)); have HOz1 := aM (Kd.R_lower hoz1 (below_size (hX HB.out))); replace HB := aS HB hb; clear hb hoz1))
  go_loopg [1, 6] k (fun kq v1 v6 w' => ∃ (x1_1 : Int) (x6_1 : List Int), v1 = .int .i64 x1_1 ∧ Aside0 (spec_l18Text.l0 kq l0 x1_1 x6_1 = some (r1, r2)) ∧ Aside0 (kq ≤ k) ∧ Aside0 (Kd.R (Kd.int .u8) 5 w' w.heap.size (fun _ => True) v6 x6_1) ∧ Aside0 (Below w.heap.size w w'))
  case atStart => exact ⟨(a1), (y101), rS, H', ⟨Nat.le_refl _⟩, ⟨(rX HOz1.out)⟩, ⟨(hX HB.out)⟩⟩
  case round =>
    clear H'
    try clear p2
    obtain ⟨x1_1, x6_1, rfl, HA, HKy1, HO_y1, HB⟩ := hrel
    cases gk with
    | zero => exact absurd HA.out (by simp [spec_l18Text.l0])
    | succ k1 =>
      have H := HA.out
      clear HA
      simp only [spec_l18Text.l0] at H
      by_cases c5 : (wrap64 (x1_1 + 1)) < (l0.length : Int)
      case neg =>
        rw [if_neg c5] at H
        have c5b0 := decide_eq_false c5
        clear c5
        simp only [Option.some.injEq, Prod.mk.injEq] at H
        obtain ⟨rfl, rfl⟩ := H
        go_wp2
        go_ret2
        exact ⟨rE, (hX HB.out)⟩
      rw [if_pos c5] at H
      have c5b0 := decide_eq_true c5
      clear c5
      have HC6 := aM H
      clear H
      go_upto_region 3 with (fail)
      go_cut [25] (fun vx1 wc => ∃ (kq : Nat) (x25_5 : Bool), vx1 = .bool x25_5 ∧ Aside0 (spec_l18Text.j1 kq l0 x1_1 x6_1 x25_5 = some (r1, r2)) ∧ Aside0 (kq ≤ k1) ∧ Aside0 (Kd.R (Kd.int .u8) 5 wc w.heap.size (fun _ => True) u6 x6_1) ∧ Aside0 (Below w.heap.size w wc))
      case first =>
        have H := HC6.out
        clear HC6
        replace H := ifP H; obtain ⟨c7, H⟩ := H
        have c7b0 := decide_eq_true c7
        clear c7
        (first | rw [c7b0] | (simp only [i64_w, i32_w]; rw [c7b0]) | skip)
        replace H := ifP H; obtain ⟨c8, H⟩ := H
        have c8b0 := decide_eq_true c8
        clear c8
        by_cases c9 : (rd l0 x1_1) = 0
        case neg =>
          rw [if_neg c9] at H
          obtain ⟨c9b0, c9b1⟩ := eqF c9
          have H' := aM H
          clear H
          have pw1 : 0 ≤ (x1_1 : Int) := odA
          have qw1 : x1_1 < (l0.length : Int) := odA
          obtain ⟨adw1, ew1, hxw1⟩ := at_ib HR0.out HB.out x1_1 pw1 qw1
          cases ew1
          replace pw1 := eq_true pw1
          replace qw1 := eq_true qw1
          go_wp2
          go_meet
          case rel => exact ⟨_, (false), rS, H', ⟨by have := HKy1.out; first | omega | exact Nat.le_refl _⟩, ⟨(rX HO_y1.out)⟩, ⟨(hX HB.out)⟩⟩
        rw [if_pos c9] at H
        obtain ⟨c9b0, c9b1⟩ := eqT c9
        clear c9
        obtain ⟨ji10, hji10⟩ : ∃ j_ : Int, (wrap64 (x1_1 + 1)) = j_ := ⟨_, rfl⟩
        replace H : (if 0 ≤ (ji10) then (spec_l18Text.j1 k1 l0 x1_1 x6_1 ((rd l0 (ji10)) == 1)) else (none)) = some (r1, r2) := by first | (rw [hji10] at H; exact H) | (simp only [hji10] at H ⊢; exact H)
        (try rw [hji10] at c5b0)
        have hji10w : (IntKind.i64.wrap (x1_1 + 1)) = ji10 := (i64_w _).trans hji10
        replace H := ifP H; obtain ⟨c11, H⟩ := H
        have c11b0 := decide_eq_true c11
        clear c11
        have H' := aM H
        clear H
        have pw1 : 0 ≤ (x1_1 : Int) := odA
        have qw1 : x1_1 < (l0.length : Int) := odA
        obtain ⟨adw1, ew1, hxw1⟩ := at_ib HR0.out HB.out x1_1 pw1 qw1
        cases ew1
        replace pw1 := eq_true pw1
        replace qw1 := eq_true qw1
        have pw2 : 0 ≤ ((ji10) : Int) := odA
        have qw2 : (ji10) < (l0.length : Int) := odA
        obtain ⟨adw2, ew2, hxw2⟩ := at_ib HR0.out HB.out (ji10) pw2 qw2
        obtain rfl : adw1 = adw2 := (by injection ew2)
        replace pw2 := eq_true pw2
        replace qw2 := eq_true qw2
        go_wp2
        go_meet
        case rel => exact ⟨_, (((rd l0 (ji10)) == 1)), (by first | rfl | (simp; done) | (simp only [← hji10] <;> (first | rfl | simp)) | (simp [*]; done)), H', ⟨by have := HKy1.out; first | omega | exact Nat.le_refl _⟩, ⟨(rX HO_y1.out)⟩, ⟨(hX HB.out)⟩⟩
      case rest =>
        clear HC6
        try clear p1
        try clear q1
        try clear hx1
        try clear p2
        try clear c5
        try clear c5b0
        try clear p6
        try clear p10
        try clear q10
        try clear hx10
        try clear hx104_0
        try clear hx105_0
        try clear p104
        try clear p105
        try clear q104
        try clear q105
        obtain ⟨kq, x25_5, rfl, HA, HJw1, HO_y1, HB⟩ := hcut
        cases kq with
        | zero => exact absurd HA.out (by simp [spec_l18Text.j1])
        | succ kj5 =>
          have H := HA.out
          clear HA
          simp only [spec_l18Text.j1] at H
          by_cases c12 : x25_5 = true
          · subst c12
            rw [if_pos rfl] at H
            simp only [Option.some.injEq, Prod.mk.injEq] at H
            obtain ⟨rfl, rfl⟩ := H
            have hcvv1 := own_string (P := Try.prog) Try.underlying22 Try.underlying5 Try.underlying9 (Kd.own_of_R HO_y1.out)
            go_wp2
            go_ret2
            exact ⟨rE, (hX HB.out)⟩
          replace c12 := Bool.eq_false_iff.mpr c12
          subst c12
          rw [if_neg nft] at H
          replace H := ifP H; obtain ⟨c14, H⟩ := H
          have c14b0 := decide_eq_true c14
          clear c14
          replace H := ifP H; obtain ⟨c15, H⟩ := H
          have c15b0 := decide_eq_true c15
          clear c15
          replace H := ifP H; obtain ⟨c16, H⟩ := H
          have LMc16 := aM c16
          clear c16
          replace H := sE H; obtain ⟨y107, Ny107, H⟩ := H
          have pv1 : 0 ≤ (x1_1 : Int) := odA
          have qv1 : x1_1 < (l0.length : Int) := odA
          obtain ⟨adv1, ev1, hxv1⟩ := at_ib HR0.out HB.out x1_1 pv1 qv1
          cases ev1
          replace pv1 := eq_true pv1
          replace qv1 := eq_true qv1
          go_wp2_with (first | ((with_reducible refine gate_builtin (b := .append) (xs := #[.tmp 30, .tmp 35]) rfl ?_); at_builtin; refine Kd.R_append (Kd.int .u8) (w0 := w) w.heap.size rfl (.tmp 30) (.tmp 35) 22 5 (.int .u8 0) 1 rfl Try.underlying22 info5 rfl (by decide) (by omega) u6 x6_1 (rd l0 x1_1) [.int .u8 (rd l0 x1_1)] (fun _ => True) (fun _ => False) rfl rfl ?aP (fun _ hk => hk.elim) ?aF ?aO ?aB ?aS ?aL ?_; (case aP => exact rfl); (case aB => exact (hX HB.out)); (case aF => exact (fun _ _ => trivial)); (case aO => exact (rX HO_y1.out)); (case aS => exact (below_size (hX HB.out))); (case aL => have := LMc16.out; omega); intro vv1 wv1 ho hb hg hat; rw [← Ny107.out] at ho; have HOv1 := aM (ho); replace HB := aM (hb); clear HO_y1; clear ho hb hg hat; have pv2 : 0 ≤ (x1_1 : Int) := odA; have qv2 : x1_1 < (l0.length : Int) := odA; obtain ⟨adv2, ev2, hxv2⟩ := Kd.at_int HR0.out x1_1 pv2 qv2; obtain rfl : adv1 = adv2 := (by injection ev2); replace hxv2 := bc HB.out hxv2; replace pv2 := eq_true pv2; replace qv2 := eq_true qv2; refine Stop.out ?_))
          refine ⟨?_⟩
          by_cases c17 : (rd l0 x1_1) = 0
          case neg =>
            rw [if_neg c17] at H
            obtain ⟨c17b0, c17b1⟩ := eqF c17
            have H' := aM H
            clear H
            go_wp2
            go_roundg kj5
            case measure => have := HKy1.out; have := HJw1.out; omega
            case rel => exact ⟨(wrap64 (x1_1 + 1)), (y107), rS, H', ⟨by have := HKy1.out; have := HJw1.out; omega⟩, ⟨(rX HOv1.out)⟩, ⟨(hX HB.out)⟩⟩
          rw [if_pos c17] at H
          obtain ⟨c17b0, c17b1⟩ := eqT c17
          clear c17
          have H' := aM H
          clear H
          go_wp2
          go_roundg kj5
          case measure => have := HKy1.out; have := HJw1.out; omega
          case rel => exact ⟨(wrap64 ((wrap64 (x1_1 + 1)) + 1)), (y107), rS, H', ⟨by have := HKy1.out; have := HJw1.out; omega⟩, ⟨(rX HOv1.out)⟩, ⟨(hX HB.out)⟩⟩
def spec_l18Read.l0 : Nat → List Int → Int → Int → Int → Int → ByteArray → Option (Int × Int × ByteArray × Int)
  | 0, _, _, _, _, _, _ => none
  | k + 1, x0, x1, x7, x104000, x104001, x104002 => if x7 < (wrap64 (x1 + 9)) then (if x7 < (x0.length : Int) then (if 0 ≤ x7 then (spec_l18Read.l0 k x0 x1 (wrap64 (x7 + 1)) x104000 (Go.bits .or .i64 (wrap64 (x104001 * 256)) (wrap64 (rd x0 x7))) x104002) else (none)) else (some (x104000, wrap64 (x104001 - 4611686018427387904), x104002, wrap64 (x1 + 9)))) else (some (x104000, wrap64 (x104001 - 4611686018427387904), x104002, wrap64 (x1 + 9)))
def spec_l18Read.f (k : Nat) (l0 : List Int) (a1 : Int) : Option (Int × Int × ByteArray × Int) := if 0 ≤ a1 then (if a1 < (l0.length : Int) then (if (wrap64 ((wrap64 (rd l0 a1)) - 1)) = 0 then (some (wrap64 ((wrap64 (rd l0 a1)) - 1), 0, (⟨#[]⟩ : ByteArray), wrap64 (a1 + 1))) else (if (wrap64 ((wrap64 (rd l0 a1)) - 1)) = 1 then (if (wrap64 (a1 + 1)) < (l0.length : Int) then (if 0 ≤ (wrap64 (a1 + 1)) then (some (wrap64 ((wrap64 (rd l0 a1)) - 1), wrap64 (rd l0 (wrap64 (a1 + 1))), (⟨#[]⟩ : ByteArray), wrap64 (a1 + 2))) else (none)) else (some (wrap64 ((wrap64 (rd l0 a1)) - 1), 0, (⟨#[]⟩ : ByteArray), wrap64 (a1 + 2)))) else (if (wrap64 ((wrap64 (rd l0 a1)) - 1)) = 2 then (spec_l18Read.l0 k l0 a1 (wrap64 (a1 + 1)) (wrap64 ((wrap64 (rd l0 a1)) - 1)) 0 (⟨#[]⟩ : ByteArray)) else (if (wrap64 ((wrap64 (rd l0 a1)) - 1)) = 3 then ((spec_l18Text.f k l0 (wrap64 (a1 + 1))).bind fun bt106 => (some (wrap64 ((wrap64 (rd l0 a1)) - 1), 0, bt106.1, bt106.2))) else (some (wrap64 ((wrap64 (rd l0 a1)) - 1), 0, (⟨#[]⟩ : ByteArray), wrap64 ((l0.length : Int) + 1))))))) else (none)) else (none)
def spec_l18Read.T13 : Bool × List (List Nat × List Nat) := (true, [([], []), ([0], [0]), ([1], [1]), ([], []), ([], []), ([3, 4], [3, 4]), ([5], [5]), ([6], [6]), ([2, 7], [2, 7]), ([0, 1, 2, 3, 4, 5, 6, 7, 8], []), ([9, 8, 0, 1, 2, 3, 4, 5, 6, 7, 8], [8, 9])])
def spec_l18Read.B13 : List Nat := [0, 1, 3, 0, 0, 24, 56, 120, 255, 511, 1023]
theorem spec_l18Read.tab13 : rtab .any (opsOf Try.f76 13) = spec_l18Read.T13 := by kernel_rfl
theorem spec_l18Read.bits13 : waitsOk spec_l18Read.T13.2 spec_l18Read.B13 = true := by kernel_rfl
set_option maxHeartbeats 8000000 in
set_option maxRecDepth 100000 in
theorem spec_l18Read.calls (k : Nat) (A0 : Option Addr) (c0 : Nat) (l0 : List Int) (a1 : Int) (r1 : Int) (r2 : Int) (r3 : ByteArray) (r4 : Int) (w : World) (hr0 : Kd.C (Kd.int .u8) w A0 l0.length l0) (hc0 : l0.length ≤ c0) (h : spec_l18Read.f k l0 a1 = some (r1, r2, r3, r4)) :
    Calls Try.prog 76 #[.slice A0 l0.length c0, .int .i64 a1] w fun e w' => e = .returned (.tuple #[.agg #[.int .i64 r1, .int .i64 r2, .string r3], .int .i64 r4]) ∧ Below w.heap.size w w' := by
  have hu37 := Try.underlying37
  have HR0 := aM hr0
  have HC0 := aM hc0
  clear hr0 hc0
  have HB := aM (Below.refl w.heap.size w)
  have H := h
  unfold spec_l18Read.f at H
  clear h
  replace H := ifP H; obtain ⟨c3, H⟩ := H
  have c3b0 := decide_eq_true c3
  clear c3
  replace H := ifP H; obtain ⟨c4, H⟩ := H
  have c4b0 := decide_eq_true c4
  clear c4
  go_enter Try.func76, Try.ntmps76
  go_wp2_with (first | ((with_reducible refine gate_dst (N := 4) rfl ?_); (try (refine gate_guard (by rfl) ?_; dsimp only)); refine boxF 4 #[.int .i64 0, .int .i64 0, .string (⟨#[]⟩ : ByteArray)] 37 ?_; intro gbz1 hg wz1 hbox hb; have BKz1 := aM (hbox); have GWz1 := aG hg HB; have GEz1 := aG hg HB; replace HB := aS HB hb; clear hb hbox hg; have pz1 : 0 ≤ (a1 : Int) := odA; have qz1 : a1 < (l0.length : Int) := odA; obtain ⟨adz1, ez1, hxz1⟩ := Kd.at_int HR0.out a1 pz1 qz1; cases ez1; replace hxz1 := bc HB.out hxz1; replace pz1 := eq_true pz1; replace qz1 := eq_true qz1; refine Stop.out ?_))
  refine ⟨?_⟩
  by_cases c5 : (wrap64 ((wrap64 (rd l0 a1)) - 1)) = 0
  · rw [if_pos c5] at H
    obtain ⟨c5b0, c5b1⟩ := eqT c5
    clear c5
    simp only [Option.some.injEq, Prod.mk.injEq] at H
    obtain ⟨rfl, rfl, rfl, rfl⟩ := H
    go_wp2_with (first | ((with_reducible refine gate_dst (N := 6) rfl ?_); (try (refine gate_guard (by rfl) ?_; dsimp only)); refine boxF 6 #[.int .i64 0, .int .i64 0, .string (⟨#[]⟩ : ByteArray)] 37 ?_; intro gbz2 hg wz2 hbox hb; have BKz2 := aM (hbox); have GWz2 := aG hg HB; have GEz2 := aG hg HB; have NBz1 := aL hg BKz1; have NBz2 := aR hg BKz1; replace BKz1 := aB BKz1 hb; replace HB := aS HB hb; clear hb hbox hg; have hnbz1 := NBz2.out; have hncz1 := NBz1.out; obtain ⟨hczz1, hczz2, hczz3, hfzz1, hfzz2, hfzz3⟩ := cZ3 BKz2.out; obtain ⟨hczz4, hczz5, hczz6, hfzz4, hfzz5, hfzz6⟩ := cZ3 BKz1.out))
    refine bodyPost_ret (results_ct rfl _ _ gbz1 37 #[.int .i64 (wrap64 ((wrap64 (rd l0 a1)) - 1)), .int .i64 0, .string (⟨#[]⟩ : ByteArray)] (0, 0) _ rfl (bP BKz1.out) Try.underlying37 rfl (by kernel_rfl)) rfl ?_
    exact ⟨rE, (hX HB.out)⟩
  rw [if_neg c5] at H
  obtain ⟨c5b0, c5b1⟩ := eqF c5
  by_cases c11 : (wrap64 ((wrap64 (rd l0 a1)) - 1)) = 1
  · rw [if_pos c11] at H
    obtain ⟨c11b0, c11b1⟩ := eqT c11
    clear c11
    by_cases c12 : (wrap64 (a1 + 1)) < (l0.length : Int)
    case neg =>
      rw [if_neg c12] at H
      have c12b0 := decide_eq_false c12
      clear c12
      simp only [Option.some.injEq, Prod.mk.injEq] at H
      obtain ⟨rfl, rfl, rfl, rfl⟩ := H
      go_wp2_with (first | ((with_reducible refine gate_dst (N := 6) rfl ?_); (try (refine gate_guard (by rfl) ?_; dsimp only)); refine boxF 6 #[.int .i64 0, .int .i64 0, .string (⟨#[]⟩ : ByteArray)] 37 ?_; intro gbz2 hg wz2 hbox hb; have BKz2 := aM (hbox); have GWz2 := aG hg HB; have GEz2 := aG hg HB; have NBz1 := aL hg BKz1; have NBz2 := aR hg BKz1; replace BKz1 := aB BKz1 hb; replace HB := aS HB hb; clear hb hbox hg; have hnbz1 := NBz2.out; have hncz1 := NBz1.out; obtain ⟨hczz1, hczz2, hczz3, hfzz1, hfzz2, hfzz3⟩ := cZ3 BKz2.out; obtain ⟨hczz4, hczz5, hczz6, hfzz4, hfzz5, hfzz6⟩ := cZ3 BKz1.out))
      refine bodyPost_ret (results_ct rfl _ _ gbz1 37 #[.int .i64 (wrap64 ((wrap64 (rd l0 a1)) - 1)), .int .i64 0, .string (⟨#[]⟩ : ByteArray)] (0, 0) _ rfl (bP BKz1.out) Try.underlying37 rfl (by kernel_rfl)) rfl ?_
      exact ⟨rE, (hX HB.out)⟩
    rw [if_pos c12] at H
    have c12b0 := decide_eq_true c12
    clear c12
    obtain ⟨ji13, hji13⟩ : ∃ j_ : Int, (wrap64 (a1 + 1)) = j_ := ⟨_, rfl⟩
    replace H : (if 0 ≤ (ji13) then (some (wrap64 ((wrap64 (rd l0 a1)) - 1), wrap64 (rd l0 (ji13)), (⟨#[]⟩ : ByteArray), wrap64 (a1 + 2))) else (none)) = some (r1, r2, r3, r4) := by first | (rw [hji13] at H; exact H) | (simp only [hji13] at H ⊢; exact H)
    (try rw [hji13] at c12b0)
    have hji13w : (IntKind.i64.wrap (a1 + 1)) = ji13 := (i64_w _).trans hji13
    replace H := ifP H; obtain ⟨c14, H⟩ := H
    have c14b0 := decide_eq_true c14
    clear c14
    simp only [Option.some.injEq, Prod.mk.injEq] at H
    obtain ⟨rfl, rfl, rfl, rfl⟩ := H
    go_wp2_with (first | ((with_reducible refine gate_dst (N := 6) rfl ?_); (try (refine gate_guard (by rfl) ?_; dsimp only)); refine boxF 6 #[.int .i64 0, .int .i64 0, .string (⟨#[]⟩ : ByteArray)] 37 ?_; intro gbz2 hg wz2 hbox hb; have BKz2 := aM (hbox); have GWz2 := aG hg HB; have GEz2 := aG hg HB; have NBz1 := aL hg BKz1; have NBz2 := aR hg BKz1; replace BKz1 := aB BKz1 hb; replace HB := aS HB hb; clear hb hbox hg; have hnbz1 := NBz2.out; have hncz1 := NBz1.out; obtain ⟨hczz1, hczz2, hczz3, hfzz1, hfzz2, hfzz3⟩ := cZ3 BKz2.out; have pz2 : 0 ≤ ((ji13) : Int) := odA; have qz2 : (ji13) < (l0.length : Int) := odA; obtain ⟨adz2, ez2, hxz2⟩ := Kd.at_int HR0.out (ji13) pz2 qz2; obtain rfl : adz1 = adz2 := (by injection ez2); have hnz1 : adz1.block ≠ gbz2 := Nat.ne_of_lt (Nat.lt_of_lt_of_le (by have := World.block_lt_of_cell? _ _ hxz2; first | rwa [add_block] at this | exact this) GWz2.out); have hnz2 : adz1.block ≠ gbz2 := Nat.ne_of_lt (Nat.lt_of_lt_of_le (by have := World.block_lt_of_cell? _ _ hxz2; first | rwa [add_block] at this | exact this) GWz2.out); have hnz3 : adz1.block ≠ gbz2 := Nat.ne_of_lt (Nat.lt_of_lt_of_le (by have := World.block_lt_of_cell? _ _ hxz2; first | rwa [add_block] at this | exact this) GWz2.out); replace hxz2 := bc HB.out hxz2; replace hxz2 := (cell_far (p := ⟨gbz2, 0, none⟩) (by first | (rw [add_block]; exact hnz1) | (show (Addr.add _ _).block ≠ _; rw [add_block]; exact hnz1) | exact hnz1) (.int .i64 (wrap64 ((wrap64 (rd l0 a1)) - 1)))).trans hxz2; replace hxz2 := (cell_far (p := ⟨gbz2, 1, none⟩) (by first | (rw [add_block]; exact hnz2) | (show (Addr.add _ _).block ≠ _; rw [add_block]; exact hnz2) | exact hnz2) (.int .i64 0)).trans hxz2; replace hxz2 := (cell_far (p := ⟨gbz2, 2, none⟩) (by first | (rw [add_block]; exact hnz3) | (show (Addr.add _ _).block ≠ _; rw [add_block]; exact hnz3) | exact hnz3) (.string (⟨#[]⟩ : ByteArray))).trans hxz2; clear hnz1; clear hnz2; clear hnz3; replace pz2 := eq_true pz2; replace qz2 := eq_true qz2; (try (have hcdqz1 : (((wz2.setCell ⟨gbz2, 0, none⟩ (.int .i64 (wrap64 ((wrap64 (rd l0 a1)) - 1)))).setCell ⟨gbz2, 1, none⟩ (.int .i64 0)).setCell ⟨gbz2, 2, none⟩ (.string (⟨#[]⟩ : ByteArray))).cell? ⟨gbz2, 1, none⟩ = some (.int .i64 0) := (blk_cell (cs := #[.int .i64 (wrap64 ((wrap64 (rd l0 a1)) - 1)), .int .i64 0, .string (⟨#[]⟩ : ByteArray)]) (t := 37) (bP BKz2.out) 1).trans rfl)); obtain ⟨hczz4, hczz5, hczz6, hfzz4, hfzz5, hfzz6⟩ := cZ3 BKz1.out))
    refine bodyPost_ret (results_ct rfl _ _ gbz1 37 #[.int .i64 (wrap64 ((wrap64 (rd l0 a1)) - 1)), .int .i64 (wrap64 (rd l0 (ji13))), .string (⟨#[]⟩ : ByteArray)] (0, 0) _ rfl (bP BKz1.out) Try.underlying37 rfl (by kernel_rfl)) rfl ?_
    exact ⟨by first | rfl | (simp [errW_none, errW_some] <;> rfl) | (simp only [← hji13]; first | rfl | (simp [errW_none, errW_some] <;> rfl)) | (simp [*, errW_none, errW_some] <;> rfl), (hX HB.out)⟩
  rw [if_neg c11] at H
  obtain ⟨c11b0, c11b1⟩ := eqF c11
  by_cases c26 : (wrap64 ((wrap64 (rd l0 a1)) - 1)) = 2
  case neg =>
    rw [if_neg c26] at H
    obtain ⟨c26b0, c26b1⟩ := eqF c26
    by_cases c42 : (wrap64 ((wrap64 (rd l0 a1)) - 1)) = 3
    case neg =>
      rw [if_neg c42] at H
      obtain ⟨c42b0, c42b1⟩ := eqF c42
      simp only [Option.some.injEq, Prod.mk.injEq] at H
      obtain ⟨rfl, rfl, rfl, rfl⟩ := H
      go_wp2_with (first | ((with_reducible refine gate_dst (N := 6) rfl ?_); (try (refine gate_guard (by rfl) ?_; dsimp only)); refine boxF 6 #[.int .i64 0, .int .i64 0, .string (⟨#[]⟩ : ByteArray)] 37 ?_; intro gbz2 hg wz2 hbox hb; have BKz2 := aM (hbox); have GWz2 := aG hg HB; have GEz2 := aG hg HB; have NBz1 := aL hg BKz1; have NBz2 := aR hg BKz1; replace BKz1 := aB BKz1 hb; replace HB := aS HB hb; clear hb hbox hg; have hnbz1 := NBz2.out; have hncz1 := NBz1.out; obtain ⟨hczz1, hczz2, hczz3, hfzz1, hfzz2, hfzz3⟩ := cZ3 BKz2.out; obtain ⟨hczz4, hczz5, hczz6, hfzz4, hfzz5, hfzz6⟩ := cZ3 BKz1.out))
      refine bodyPost_ret (results_ct rfl _ _ gbz1 37 #[.int .i64 (wrap64 ((wrap64 (rd l0 a1)) - 1)), .int .i64 0, .string (⟨#[]⟩ : ByteArray)] (0, 0) _ rfl (bP BKz1.out) Try.underlying37 rfl (by kernel_rfl)) rfl ?_
      exact ⟨rE, (hX HB.out)⟩
    rw [if_pos c42] at H
    obtain ⟨c42b0, c42b1⟩ := eqT c42
    clear c42
    replace H := bE H; obtain ⟨⟨t106, t107⟩, A43, H⟩ := H
    try dsimp only at H
    simp only [Option.some.injEq, Prod.mk.injEq] at H
    obtain ⟨rfl, rfl, rfl, rfl⟩ := H
    go_wp2_with (first | ((with_reducible refine gate_dst (N := 6) rfl ?_); (try (refine gate_guard (by rfl) ?_; dsimp only)); refine boxF 6 #[.int .i64 0, .int .i64 0, .string (⟨#[]⟩ : ByteArray)] 37 ?_; intro gbz2 hg wz2 hbox hb; have BKz2 := aM (hbox); have GWz2 := aG hg HB; have GEz2 := aG hg HB; have NBz1 := aL hg BKz1; have NBz2 := aR hg BKz1; replace BKz1 := aB BKz1 hb; replace HB := aS HB hb; clear hb hbox hg; have hnbz1 := NBz2.out; have hncz1 := NBz1.out; obtain ⟨hczz1, hczz2, hczz3, hfzz1, hfzz2, hfzz3⟩ := cZ3 BKz2.out) | ((with_reducible refine gate_callee (f := 90) rfl ?_); refine goesM 90 80 Try.func90 #[.slice (some adz1) l0.length c0, .int .i64 (wrap64 (a1 + 1))] ?_; refine (spec_l18Text.calls k _ _ l0 (wrap64 (a1 + 1)) t106 t107 _ (by exact Kd.C_below HR0.out (hX HB.out)) HC0.out A43.out).mono ?_; rintro e wz3 ⟨rfl, hb⟩; refine ⟨_, rfl, ?_⟩; replace BKz1 := aF BKz1 hb; replace BKz2 := aM (blk_below (g := gbz2) (o := .cells #[.int .i64 (wrap64 ((wrap64 (rd l0 a1)) - 1)), .int .i64 0, .string (⟨#[]⟩ : ByteArray)] 37 (0, 0)) (bP BKz2.out) hb); replace HB := aS HB hb; clear hb; obtain ⟨hczz4, hczz5, hczz6, hfzz4, hfzz5, hfzz6⟩ := cZ3 BKz2.out; obtain ⟨hczz7, hczz8, hczz9, hfzz7, hfzz8, hfzz9⟩ := cZ3 BKz1.out))
    refine bodyPost_ret (results_ct rfl _ _ gbz1 37 #[.int .i64 (wrap64 ((wrap64 (rd l0 a1)) - 1)), .int .i64 0, .string t106] (0, 0) _ rfl (bP BKz1.out) Try.underlying37 rfl (by kernel_rfl)) rfl ?_
    exact ⟨rE, (hX HB.out)⟩
  rw [if_pos c26] at H
  obtain ⟨c26b0, c26b1⟩ := eqT c26
  clear c26
  have H' := aM H
  clear H
  go_wp2_with (first | ((with_reducible refine gate_dst (N := 6) rfl ?_); (try (refine gate_guard (by rfl) ?_; dsimp only)); refine boxF 6 #[.int .i64 0, .int .i64 0, .string (⟨#[]⟩ : ByteArray)] 37 ?_; intro gbz2 hg wz2 hbox hb; have BKz2 := aM (hbox); have GWz2 := aG hg HB; have GEz2 := aG hg HB; have NBz1 := aL hg BKz1; have NBz2 := aR hg BKz1; replace BKz1 := aB BKz1 hb; replace HB := aS HB hb; clear hb hbox hg; have hnbz1 := NBz2.out; have hncz1 := NBz1.out; obtain ⟨hczz1, hczz2, hczz3, hfzz1, hfzz2, hfzz3⟩ := cZ3 BKz2.out))
  go_loopg [7] k (fun kq v7 w' => ∃ (x7_1 : Int) (x104001_1 : Int), v7 = .int .i64 x7_1 ∧ Aside0 (spec_l18Read.l0 kq l0 a1 x7_1 (wrap64 ((wrap64 (rd l0 a1)) - 1)) x104001_1 (⟨#[]⟩ : ByteArray) = some (r1, r2, r3, r4)) ∧ Aside0 (kq ≤ k) ∧ Aside0 (w'.heap[gbz1]? = some (.cells #[.int .i64 0, .int .i64 0, .string (⟨#[]⟩ : ByteArray)] 37 (0, 0))) ∧ Aside0 (w'.heap[gbz2]? = some (.cells #[.int .i64 (wrap64 ((wrap64 (rd l0 a1)) - 1)), .int .i64 x104001_1, .string (⟨#[]⟩ : ByteArray)] 37 (0, 0))) ∧ Aside0 (Below w.heap.size w w'))
  case atStart => exact ⟨(wrap64 (a1 + 1)), (0), rS, H', ⟨Nat.le_refl _⟩, ⟨(bF BKz1.out)⟩, ⟨(bP BKz2.out)⟩, ⟨(hX HB.out)⟩⟩
  case round =>
    clear H'
    try clear p1
    try clear q1
    try clear hx1
    try clear p2
    try clear c3
    try clear c3b0
    try clear c4
    try clear c4b0
    try clear c5
    try clear c5b0
    try clear c5b1
    try clear p6
    try clear p10
    try clear q10
    try clear hx10
    try clear c11
    try clear c11b0
    try clear c11b1
    try clear q19
    try clear c26
    try clear c26b0
    try clear c26b1
    try clear hczz1 hczz2 hczz3 hfzz1 hfzz2 hfzz3
    try clear hxz1
    try clear hx104_0
    try clear pz1
    try clear p104
    try clear qz1
    try clear q104
    obtain ⟨x7_1, x104001_1, rfl, HA, HKy1, BKz1, BKz2, HB⟩ := hrel
    cases gk with
    | zero => exact absurd HA.out (by simp [spec_l18Read.l0])
    | succ k1 =>
      have H := HA.out
      clear HA
      simp only [spec_l18Read.l0] at H
      by_cases c31 : x7_1 < (wrap64 (a1 + 9))
      case neg =>
        rw [if_neg c31] at H
        have c31b0 := decide_eq_false c31
        clear c31
        simp only [Option.some.injEq, Prod.mk.injEq] at H
        obtain ⟨rfl, rfl, rfl, rfl⟩ := H
        have hnbx1 := NBz2.out
        have hncx1 := NBz1.out
        obtain ⟨hczx1, hczx2, hczx3, hfzx1, hfzx2, hfzx3⟩ := cZ3 BKz2.out
        obtain ⟨hczx4, hczx5, hczx6, hfzx4, hfzx5, hfzx6⟩ := cZ3 BKz1.out
        go_wp2
        refine bodyPost_ret (results_ct rfl _ _ gbz1 37 #[.int .i64 (wrap64 ((wrap64 (rd l0 a1)) - 1)), .int .i64 (wrap64 (x104001_1 - 4611686018427387904)), .string (⟨#[]⟩ : ByteArray)] (0, 0) _ rfl (bP BKz1.out) Try.underlying37 rfl (by kernel_rfl)) rfl ?_
        exact ⟨rE, (hX HB.out)⟩
      rw [if_pos c31] at H
      have c31b0 := decide_eq_true c31
      clear c31
      by_cases c32 : x7_1 < (l0.length : Int)
      case neg =>
        rw [if_neg c32] at H
        have c32b0 := decide_eq_false c32
        clear c32
        simp only [Option.some.injEq, Prod.mk.injEq] at H
        obtain ⟨rfl, rfl, rfl, rfl⟩ := H
        have hnbx1 := NBz2.out
        have hncx1 := NBz1.out
        obtain ⟨hczx1, hczx2, hczx3, hfzx1, hfzx2, hfzx3⟩ := cZ3 BKz2.out
        obtain ⟨hczx4, hczx5, hczx6, hfzx4, hfzx5, hfzx6⟩ := cZ3 BKz1.out
        go_wp2
        refine bodyPost_ret (results_ct rfl _ _ gbz1 37 #[.int .i64 (wrap64 ((wrap64 (rd l0 a1)) - 1)), .int .i64 (wrap64 (x104001_1 - 4611686018427387904)), .string (⟨#[]⟩ : ByteArray)] (0, 0) _ rfl (bP BKz1.out) Try.underlying37 rfl (by kernel_rfl)) rfl ?_
        exact ⟨rE, (hX HB.out)⟩
      rw [if_pos c32] at H
      have c32b0 := decide_eq_true c32
      clear c32
      replace H := ifP H; obtain ⟨c33, H⟩ := H
      have c33b0 := decide_eq_true c33
      clear c33
      have H' := aM H
      clear H
      try go_wp2
      replace BKz1 := aM (blk_drew BKz1.out)
      replace BKz2 := aM (blk_drew BKz2.out)
      replace HB := aM (below_drew1 HB.out)
      have px1 : 0 ≤ (x7_1 : Int) := odA
      have qx1 : x7_1 < (l0.length : Int) := odA
      obtain ⟨adx1, ex1, hxx1⟩ := Kd.at_int HR0.out x7_1 px1 qx1
      have hwx1 := hxx1
      obtain rfl : adz1 = adx1 := (by injection ex1)
      replace hxx1 := bc HB.out hxx1
      replace px1 := eq_true px1
      replace qx1 := eq_true qx1
      refine start_ (n := 11) (S := fun w' => w'.cell? ⟨gbz2, 0, none⟩ = some (.int .i64 (wrap64 ((wrap64 (rd l0 a1)) - 1))) ∧ w'.cell? ⟨gbz2, 1, none⟩ = some (.int .i64 x104001_1) ∧ w'.cell? ⟨gbz2, 2, none⟩ = some (.string (⟨#[]⟩ : ByteArray)) ∧ w'.cell? (adz1.add (x7_1).toNat) = some (.int .u8 (rd l0 x7_1))) (ds := [10]) (bm 11 0) (by kernel_rfl) rfl (by kernel_rfl) ⟨cK BKz2.out 0, cK BKz2.out 1, cK BKz2.out 2, (bc HB.out hwx1 :)⟩ (fun hHeld => ?_); refine with_tabW spec_l18Read.tab13 spec_l18Read.bits13 (fun HT_ HW_ => ?_)
      generalize wr.drew = wx1 at BKz1 BKz2 HB hxx1 hHeld ⊢
      refine pZ 0 57 (bm 11 1) HT_.out ?_
      refine pZ 3 60 (bm 11 9) HT_.out ?_
      refine pZ 4 61 (bm 11 25) HT_.out ?_
      refine pZ 5 62 (bm 11 57) HT_.out ?_
      refine tZ 1 58 (bm 11 59) HT_.out HW_.out hHeld ?_
      refine pZ 2 59 (bm 11 63) HT_.out ?_
      refine tZ 6 63 (bm 11 127) HT_.out HW_.out hHeld ?_
      refine pZ 7 64 (bm 11 255) HT_.out ?_
      refine pZ 8 65 (bm 11 511) HT_.out ?_
      refine pZ 9 66 (bm 11 1023) HT_.out ?_
      refine last_ (i := 10) (N := none) #[true, true, true, true, true, true, true, true, true, true, true] rfl rfl (one_of HT_.out (by kernel_rfl)) (by decide) (fun K hK => ?_)
      have hsx1 : wx1.cell? ⟨gbz2, 1, none⟩ = some (.int .i64 x104001_1) := (blk_cell BKz2.out 1).trans rfl
      have hfsx1 := blk_frozen BKz2.out 1
      have hnsx1 := NBz1.out
      have hmsx1 := NBz2.out
      refine skip_ (w1 := ?_) (by rfl) rfl ?_ ?_
      rotate_left
      · go_simp
        rfl
      refine hK.out _ _ ?_
      clear hK K
      refine done_ (done_of HT_.out (by kernel_rfl)) ?_
      try go_wp2
      go_roundg k1
      case measure => have := HKy1.out; omega
      case rel => exact ⟨(wrap64 (x7_1 + 1)), (Go.bits .or .i64 (wrap64 (x104001_1 * 256)) (wrap64 (rd l0 x7_1))), rS, H', ⟨by have := HKy1.out; omega⟩, ⟨(bF BKz1.out)⟩, ⟨(bP BKz2.out)⟩, ⟨(hX HB.out)⟩⟩
end Go.Proofs.Ytcedikpkbgofhaa.P2
