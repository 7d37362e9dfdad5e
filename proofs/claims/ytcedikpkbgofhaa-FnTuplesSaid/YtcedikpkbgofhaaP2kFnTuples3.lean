/- A part of the proof of the law FnTuples: texts of this seat, merged (words, printed functions of the program, plain lemmas). Conditions: none of its own. -/
import Derived.Shelf.Strings.Builder1
import Derived.Shelf.Strings.Builder2
import Derived.Shelf.Strings.OnBuilder
import Derived.Shelf.Small.Strs
import Derived.Shelf.Bytes.SlEqualAll
import Derived.Shelf.Bytes.Small
import Derived.Test.YtcedikpkbgofhaaProg
import Derived.OpenShut
import Derived.DataElems
import Derived.DataReads
import Derived.Laws.BitsLemmas
import Derived.Test.YtcedikpkbgofhaaP2kFnTuples2
set_option linter.unusedSimpArgs false
set_option linter.unusedVariables false
namespace Go.Proofs.Ytcedikpkbgofhaa.P2
open Go.Proofs.YtcedikpkbgofhaaZ Go.RowKit Go.Proofs.YtcedikpkbgofhaaW.PrintWords Go.Proofs.YtcedikpkbgofhaaW.PrintLast Go.Proofs.YtcedikpkbgofhaaW.PrintMore
attribute [local go_sem] max2_int min2_int max_two min_two max_three min_three max_four min_four   -- for this text's walks alone
mutual
def spec_TupleOf.j1 : Nat → List Int → List (S37) → Int → Option ((List (S37)) × Bool)
  | 0, _, _, _ => none
  | k + 1, x0, x4, x5 => if x5 = (x0.length : Int) then ((spec_TupleOk.f k x4).bind fun t112 => (if t112 = true then ((spec_TupleBytes.f k x4).bind fun t113 => (if (strOfNums t113).toList = (strOfNums x0).toList then (some (x4, true)) else (some ((([] : List (S37))), false)))) else (some ((([] : List (S37))), false)))) else (some ((([] : List (S37))), false))
def spec_TupleOf.l0 : Nat → List Int → List (S37) → Int → Option ((List (S37)) × Bool)
  | 0, _, _, _ => none
  | k + 1, x0, x4, x5 => if x5 < (x0.length : Int) then (if (x4.length : Int) ≤ 4 then ((spec_l18Read.f k x0 x5).bind fun bt104 => (if x4.length < 4398046511104 then (spec_TupleOf.l0 k x0 (x4 ++ [(⟨bt104.1, bt104.2.1, bt104.2.2.1⟩ : S37)]) bt104.2.2.2) else (none))) else (spec_TupleOf.j1 k x0 x4 x5)) else (spec_TupleOf.j1 k x0 x4 x5)
end
def spec_TupleOf.f (k : Nat) (l0 : List Int) : Option ((List (S37)) × Bool) := spec_TupleOf.l0 k l0 (([] : List (S37))) 0
def spec_TupleOf.T7 : Bool × List (List Nat × List Nat) := (true, [([], []), ([], []), ([1], [1]), ([0, 2], [0, 2]), ([3], [3]), ([4], [4]), ([5, 4, 4], [4, 5]), ([6, 4], [4, 6]), ([4, 7], [4, 7]), ([8, 6], [8]), ([9], [9]), ([10, 9, 9], [9, 10]), ([11, 9], [9, 11]), ([9], [9]), ([13, 9], [9, 13]), ([12, 14, 9], [9, 12, 14]), ([9, 15], [9, 15])])
def spec_TupleOf.B7 : List Nat := [0, 0, 2, 7, 15, 31, 63, 127, 255, 511, 1023, 2047, 4095, 1023, 9215, 32767, 65535]
theorem spec_TupleOf.tab7 : rtab .any (opsOf Try.f41 7) = spec_TupleOf.T7 := by kernel_rfl
theorem spec_TupleOf.bits7 : waitsOk spec_TupleOf.T7.2 spec_TupleOf.B7 = true := by kernel_rfl
set_option maxHeartbeats 8000000 in
set_option maxRecDepth 100000 in
theorem spec_TupleOf.calls (k : Nat) (A0 : Option Addr) (c0 : Nat) (l0 : List Int) (r1 : List (S37)) (r2 : Bool) (w : World) (hr0 : Kd.C (Kd.int .u8) w A0 l0.length l0) (hc0 : l0.length ≤ c0) (h : spec_TupleOf.f k l0 = some (r1, r2)) :
    Calls Try.prog 41 #[.slice A0 l0.length c0] w fun e w' => ∃ v0_ : Value, e = .returned (.tuple #[v0_, .bool r2]) ∧ Kd.R k37 37 w' w.heap.size (fun _ => True) v0_ r1 ∧ Below w.heap.size w w' := by
  have hu37 := Try.underlying37
  have HR0 := aM hr0
  have HC0 := aM hc0
  clear hr0 hc0
  have HB := aM (Below.refl w.heap.size w)
  have H := h
  unfold spec_TupleOf.f at H
  clear h
  obtain ⟨y101, hy101⟩ : ∃ y_ : List (S37), y_ = (([] : List (S37))) := ⟨_, rfl⟩
  replace H : (spec_TupleOf.l0 k l0 y101 0) = some (r1, r2) := yH H hy101
  have Ny101 := aM hy101
  clear hy101
  have HC2 := aM H
  clear H
  go_enter Try.func41, Try.ntmps41
  go_upto_block 0 with (first | ((with_reducible refine gate_dst (N := 8) rfl ?_); (try (refine gate_guard (by rfl) ?_; dsimp only)); refine Kd.R_lit k37 _ 37 ?hg (N := 8) ?hd (xs := ([] : List (S37))) (inner := []) (ok := fun _ => True) (okp := fun _ => True) ?hr ?hp (fun _ hk => hk) trivial (Below.refl _ _) (Nat.le_refl _) (by simp) ?_; (case hd => rfl); (case hg => rfl); (case hr => first | (go_simp; done) | (go_simp; rfl)); (case hp => exact (Reps.none _ _)); intro vz1 wz1 hoz1 hb hg_ hnew_; clear hg_ hnew_; (first | rw [← Ny101.out] at hoz1 | (simp only [Int.reduceToNat] at hoz1; rw [← Ny101.out] at hoz1)); have HOz1 := aM (Kd.R_lower hoz1 (below_size (hX HB.out))); replace HB := aS HB hb; clear hb hoz1))
  (try simp only [Act.put, List.setIfInBounds_toArray, List.set_cons_zero, List.set_cons_succ])
  go_cut [4, 5] (fun vz2 vz3 wc => ∃ (kq : Nat) (x4_1 : List (S37)) (x5_1 : Int), vz3 = .int .i64 x5_1 ∧ Aside0 (spec_TupleOf.j1 kq l0 x4_1 x5_1 = some (r1, r2)) ∧ Aside0 (kq ≤ k) ∧ Aside0 (Kd.R k37 37 wc w.heap.size (fun _ => True) vz2 x4_1) ∧ Aside0 (Below w.heap.size w wc))
  case first =>
    have H := HC2.out
    clear HC2
    have H' := aM H
    clear H
    go_wp2
    go_loopg [4, 5] k (fun kq vz2 vz3 w' => ∃ (x4_1 : List (S37)) (x5_1 : Int), vz3 = .int .i64 x5_1 ∧ Aside0 (spec_TupleOf.l0 kq l0 x4_1 x5_1 = some (r1, r2)) ∧ Aside0 (kq ≤ k) ∧ Aside0 (Kd.R k37 37 w' w.heap.size (fun _ => True) vz2 x4_1) ∧ Aside0 (Below w.heap.size w w'))
    case atStart => exact ⟨(y101), (0), rS, H', ⟨Nat.le_refl _⟩, ⟨(rX HOz1.out)⟩, ⟨(hX HB.out)⟩⟩
    case round =>
      clear H'
      try clear p2
      obtain ⟨x4_1, x5_1, rfl, HA, HKx1, HO_x1, HB⟩ := hrel
      cases gk with
      | zero => exact absurd HA.out (by simp [spec_TupleOf.l0])
      | succ k1 =>
        have H := HA.out
        clear HA
        simp only [spec_TupleOf.l0] at H
        by_cases c5 : x5_1 < (l0.length : Int)
        case neg =>
          rw [if_neg c5] at H
          have c5b0 := decide_eq_false c5
          clear c5
          (first | rw [c5b0] | (simp only [i64_w, i32_w]; rw [c5b0]) | skip)
          have H' := aM H
          clear H
          go_wp2
          go_meet
          case rel => exact ⟨_, (x4_1), (x5_1), rS, H', ⟨by have := HKx1.out; first | omega | exact Nat.le_refl _⟩, ⟨(rX HO_x1.out)⟩, ⟨(hX HB.out)⟩⟩
        rw [if_pos c5] at H
        have c5b0 := decide_eq_true c5
        clear c5
        (first | rw [c5b0] | (simp only [i64_w, i32_w]; rw [c5b0]) | skip)
        by_cases c6 : (x4_1.length : Int) ≤ 4
        case neg =>
          rw [if_neg c6] at H
          have c6b0 := decide_eq_false c6
          have c6b1 : decide (x4_1.length ≤ 4) = false := decide_eq_false (by omega)
          clear c6
          have H' := aM H
          clear H
          obtain ⟨Aow1, cow1, eow1⟩ := Kd.R_slice HO_x1.out
          subst eow1
          go_wp2
          go_meet
          case rel => exact ⟨_, (x4_1), (x5_1), rS, H', ⟨by have := HKx1.out; first | omega | exact Nat.le_refl _⟩, ⟨(rX HO_x1.out)⟩, ⟨(hX HB.out)⟩⟩
        rw [if_pos c6] at H
        have c6b0 := decide_eq_true c6
        have c6b1 : decide (x4_1.length ≤ 4) = true := decide_eq_true (by omega)
        clear c6
        replace H := bE H; obtain ⟨⟨t104, t105, t106, t107⟩, A7, H⟩ := H
        try dsimp only at H
        replace H := ifP H; obtain ⟨c8, H⟩ := H
        have LMc8 := aM c8
        clear c8
        obtain ⟨y109, hy109⟩ : ∃ y_ : List (S37), y_ = (x4_1 ++ [(⟨t104, t105, t106⟩ : S37)]) := ⟨_, rfl⟩
        replace H : (spec_TupleOf.l0 k1 l0 y109 t107) = some (r1, r2) := yH H hy109
        have Ny109 := aM hy109
        clear hy109
        have H' := aM H
        clear H
        obtain ⟨Aow1, cow1, eow1⟩ := Kd.R_slice HO_x1.out
        subst eow1
        go_wp2_with (first | ((with_reducible refine gate_callee (f := 76) rfl ?_); refine goesM 76 21 Try.func76 #[.slice A0 l0.length c0, .int .i64 x5_1] ?_; refine (spec_l18Read.calls _ _ _ _ _ _ _ _ _ _ (cC HR0.out HB.out) HC0.out A7.out).mono ?_; rintro e ww1 ⟨rfl, hb⟩; refine ⟨_, rfl, ?_⟩; replace HO_x1 := aQ HO_x1 hb; replace HB := aS HB hb; clear hb) | ((with_reducible refine gate_dst (N := 6) rfl ?_); (try (refine gate_guard (by rfl) ?_; dsimp only)); refine boxF 6 #[.int .i64 0, .int .i64 0, .string (⟨#[]⟩ : ByteArray)] 37 ?_; intro gbw1 hg ww2 hbox hb; have BKw1 := aM (hbox); have GWw1 := aG hg HB; have GEw1 := aG hg HB; replace HO_x1 := aM (Kd.R_below (Kd.R_elderB (rX HO_x1.out) gbw1 (Nat.le_of_eq hg.symm)) hb); replace HB := aS HB hb; clear hb hbox hg; obtain ⟨hczw1, hczw2, hczw3, hfzw1, hfzw2, hfzw3⟩ := cZ3 BKw1.out) | ((with_reducible refine gate_builtin (b := .append) (xs := #[.tmp 24, .tmp 26]) rfl ?_); (try (refine gate_guard (by rfl) ?_; dsimp only)); at_builtin; refine Kd.R_append k37 (w0 := w) w.heap.size rfl (.tmp 24) (.tmp 26) 24 37 (.agg #[(.int .i64 0), (.int .i64 0), (.string ⟨#[]⟩)]) 32 rfl Try.underlying24 info37 rfl (by decide) (by omega) (.slice Aow1 x4_1.length cow1) x4_1 (⟨t104, t105, t106⟩ : S37) [.int .i64 t104, .int .i64 t105, .string t106] (fun k_ => k_ ≠ gbw1) (fun _ => False) rfl (by first | (go_simp; done) | (go_simp; rfl)) ?aP (fun _ hk => hk.elim) ?aF ?aO ?aB ?aS ?aL ?_; (case aP => exact k37_mkM _ _ _ (⟨t104, t105, t106⟩ : S37)); (case aB => exact (hX HB.out)); (case aF => exact (fun k_ hk => Kd.freshB (g := gbw1) (o := .cells #[.int .i64 t104, .int .i64 t105, .string t106] 37 (0, 0)) (bP BKw1.out) k_ hk)); (case aO => exact (rT (h := by exact Kd.R_mono (Kd.R_far (p := ⟨gbw1, 2, none⟩) (Kd.R_far (p := ⟨gbw1, 1, none⟩) (Kd.R_far (p := ⟨gbw1, 0, none⟩) (Kd.R_mono HO_x1.out (fun k_ hk => (⟨hk, hk.2⟩ : _ ∧ k_ ≠ gbw1))) (fun _ hk => hk.2) (.int .i64 t104)) (fun _ hk => hk.2) (.int .i64 t105)) (fun _ hk => hk.2) (.string t106)) (fun _ hk => hk.1.2)))); (case aS => exact (below_size (hX HB.out))); (case aL => have := LMc8.out; omega); intro vw1 ww3 ho hb hg hat; rw [← Ny109.out] at ho; have HOw1 := aM (ho); replace BKw1 := aM (blk_grown (g := gbw1) (o := .cells #[.int .i64 t104, .int .i64 t105, .string t106] 37 (0, 0)) (bP BKw1.out) hg (Kd.R_away HO_x1.out (fun _ hk => hk.2))); replace HB := aM (hb); clear HO_x1; clear ho hb hg hat))
        go_roundg k1
        case measure => have := HKx1.out; omega
        case rel => exact ⟨(y109), (t107), rS, H', ⟨by have := HKx1.out; omega⟩, ⟨(rT (h := by exact Kd.R_mono HOw1.out (fun _ hk => trivial)))⟩, ⟨(hX HB.out)⟩⟩
  case rest =>
    clear HC2
    try clear p2
    obtain ⟨kq, x4_1, x5_1, rfl, HA, HJy1, HO_y1, HB⟩ := hcut
    cases kq with
    | zero => exact absurd HA.out (by simp [spec_TupleOf.j1])
    | succ kj1 =>
      have H := HA.out
      clear HA
      simp only [spec_TupleOf.j1] at H
      by_cases c15 : x5_1 = (l0.length : Int)
      case neg =>
        rw [if_neg c15] at H
        obtain ⟨c15b0, c15b1⟩ := eqF c15
        obtain ⟨y122, hy122⟩ : ∃ y_ : List (S37), y_ = (([] : List (S37))) := ⟨_, rfl⟩
        replace H : (some (y122, false)) = some (r1, r2) := yH H hy122
        have Ny122 := aM hy122
        clear hy122
        simp only [Option.some.injEq, Prod.mk.injEq] at H
        obtain ⟨rfl, rfl⟩ := H
        try go_wp2
        replace HO_y1 := aM (Kd.R_drew HO_y1.out)
        replace HB := aM (below_drew1 HB.out)
        refine start_ (n := 17) (S := fun w' => True) (ds := []) (bm 17 0) (by kernel_rfl) rfl (by kernel_rfl) trivial (fun hHeld => ?_); refine with_tabW spec_TupleOf.tab7 spec_TupleOf.bits7 (fun HT_ HW_ => ?_)
        generalize wc.drew = wx1 at HO_y1 HB hHeld ⊢
        refine pZ 0 29 (bm 17 1) HT_.out ?_
        refine pZ 1 30 (bm 17 3) HT_.out ?_
        refine pZ 2 31 (bm 17 7) HT_.out ?_
        refine pZ 3 32 (bm 17 15) HT_.out ?_
        refine pZ 4 33 (bm 17 31) HT_.out ?_
        refine pU 5 34 (bm 17 63) HT_.out ?_
        refine pU 6 35 (bm 17 127) HT_.out ?_
        refine pU 7 36 (bm 17 255) HT_.out ?_
        refine pZ 8 37 (bm 17 511) HT_.out ?_
        refine pZ 9 38 (bm 17 1023) HT_.out ?_
        refine pU 10 39 (bm 17 2047) HT_.out ?_
        refine pU 11 40 (bm 17 4095) HT_.out ?_
        refine pU 12 41 (bm 17 8191) HT_.out ?_
        refine pU 13 42 (bm 17 16383) HT_.out ?_
        refine pU 14 43 (bm 17 32767) HT_.out ?_
        refine pU 15 44 (bm 17 65535) HT_.out ?_
        refine pZ 16 45 (bm 17 131071) HT_.out ?_
        refine done_ (done_of HT_.out (by kernel_rfl)) ?_
        try go_wp2_with (first | ((with_reducible refine gate_dst (N := 46) rfl ?_); (try (refine gate_guard (by rfl) ?_; dsimp only)); refine Kd.R_lit k37 _ 37 ?hg (N := 46) ?hd (xs := ([] : List (S37))) (inner := []) (ok := fun _ => True) (okp := fun _ => True) ?hr ?hp (fun _ hk => hk) trivial (Below.refl _ _) (Nat.le_refl _) (by simp) ?_; (case hd => rfl); (case hg => rfl); (case hr => first | (go_simp; done) | (go_simp; rfl)); (case hp => exact (Reps.none _ _)); intro vx1 wx2 hox1 hb hg_ hnew_; clear hg_ hnew_; (first | rw [← Ny122.out] at hox1 | (simp only [Int.reduceToNat] at hox1; rw [← Ny122.out] at hox1)); have HOx1 := aM (Kd.R_lower (Kd.R_new' hox1 (Kd.R_lt (rX HO_y1.out))) (below_size (hX HB.out))); replace HO_y1 := aM (Kd.R_elder' (rX HO_y1.out) (Kd.R_base hox1) hb); replace HB := aS HB hb; clear hb hox1))
        go_ret2
        exact ⟨_, rE, (rT (h := by exact Kd.R_mono HOx1.out (fun _ hk => trivial))), (hX HB.out)⟩
      rw [if_pos c15] at H
      obtain ⟨c15b0, c15b1⟩ := eqT c15
      clear c15
      replace H := bE H; obtain ⟨t112, A16, H⟩ := H
      by_cases c17 : t112 = true
      case neg =>
        replace c17 := Bool.eq_false_iff.mpr c17
        subst c17
        rw [if_neg nft] at H
        obtain ⟨y119, hy119⟩ : ∃ y_ : List (S37), y_ = (([] : List (S37))) := ⟨_, rfl⟩
        replace H : (some (y119, false)) = some (r1, r2) := yH H hy119
        have Ny119 := aM hy119
        clear hy119
        simp only [Option.some.injEq, Prod.mk.injEq] at H
        obtain ⟨rfl, rfl⟩ := H
        try go_wp2
        replace HO_y1 := aM (Kd.R_drew HO_y1.out)
        replace HB := aM (below_drew1 HB.out)
        obtain ⟨Aox1, cox1, eox1⟩ := Kd.R_slice HO_y1.out
        (first | subst eox1 | (injection eox1 with f1_ f2_ f3_; have fx1 := f1_.symm; have fx2 := f3_.symm; clear f1_ f2_ f3_; subst fx1; subst fx2))
        refine start_ (n := 17) (S := fun w' => True) (ds := []) (bm 17 0) (by kernel_rfl) rfl (by kernel_rfl) trivial (fun hHeld => ?_); refine with_tabW spec_TupleOf.tab7 spec_TupleOf.bits7 (fun HT_ HW_ => ?_)
        generalize wc.drew = wx1 at HO_y1 HB hHeld ⊢
        refine pZ 0 29 (bm 17 1) HT_.out ?_
        refine pZ 1 30 (bm 17 3) HT_.out ?_
        refine pZ 2 31 (bm 17 7) HT_.out ?_
        refine pZ 3 32 (bm 17 15) HT_.out ?_
        refine pZ 4 33 (bm 17 31) HT_.out ?_
        refine pZ 5 34 (bm 17 63) HT_.out ?_
        refine oZ 6 (some 35) (bm 17 127) HT_.out (fun K hK => ?_)
        refine goesN Try.func21 #[.slice Aox1 x4_1.length cox1] ?_
        with_reducible refine (spec_TupleOk.calls kj1 _ _ x4_1 false _ ?side1 ?side2 A16.out).mono ?_
        (case side1 => repeat (first | exact (Kd.R_reads' HO_y1.out).2.2 | (with_reducible refine Kd.C_alloc ?_ _) | (with_reducible refine Kd.C_drewN ?_ _) | (with_reducible refine Kd.C_drew ?_)))
        (case side2 => exact (Kd.R_reads' HO_y1.out).2.1)
        rintro e wx2 ⟨rfl, hb⟩
        refine ⟨_, rfl, ?_⟩
        replace HO_y1 := aQ HO_y1 hb
        replace HB := aS HB hb
        (try clear hb)
        (try clear hb2)
        (try clear hk)
        (try clear hi)
        refine hK.out _ _ trivial (fun hHeld => ?_)
        clear hK K
        refine nZ 35 ?_
        refine pZ 7 36 (bm 17 255) HT_.out ?_
        refine pZ 8 37 (bm 17 511) HT_.out ?_
        refine pZ 9 38 (bm 17 1023) HT_.out ?_
        refine pU 10 39 (bm 17 2047) HT_.out ?_
        refine pU 11 40 (bm 17 4095) HT_.out ?_
        refine pU 12 41 (bm 17 8191) HT_.out ?_
        refine pU 13 42 (bm 17 16383) HT_.out ?_
        refine pU 14 43 (bm 17 32767) HT_.out ?_
        refine pU 15 44 (bm 17 65535) HT_.out ?_
        refine pZ 16 45 (bm 17 131071) HT_.out ?_
        refine done_ (done_of HT_.out (by kernel_rfl)) ?_
        try go_wp2_with (first | ((with_reducible refine gate_dst (N := 46) rfl ?_); (try (refine gate_guard (by rfl) ?_; dsimp only)); refine Kd.R_lit k37 _ 37 ?hg (N := 46) ?hd (xs := ([] : List (S37))) (inner := []) (ok := fun _ => True) (okp := fun _ => True) ?hr ?hp (fun _ hk => hk) trivial (Below.refl _ _) (Nat.le_refl _) (by simp) ?_; (case hd => rfl); (case hg => rfl); (case hr => first | (go_simp; done) | (go_simp; rfl)); (case hp => exact (Reps.none _ _)); intro vx1 wx3 hox1 hb hg_ hnew_; clear hg_ hnew_; (first | rw [← Ny119.out] at hox1 | (simp only [Int.reduceToNat] at hox1; rw [← Ny119.out] at hox1)); have HOx1 := aM (Kd.R_lower (Kd.R_new' hox1 (Kd.R_lt (rX HO_y1.out))) (below_size (hX HB.out))); replace HO_y1 := aM (Kd.R_elder' (rX HO_y1.out) (Kd.R_base hox1) hb); replace HB := aS HB hb; clear hb hox1))
        go_ret2
        exact ⟨_, rE, (rT (h := by exact Kd.R_mono HOx1.out (fun _ hk => trivial))), (hX HB.out)⟩
      subst c17
      rw [if_pos rfl] at H
      replace H := bE H; obtain ⟨t113, A18, H⟩ := H
      by_cases c19 : (strOfNums t113).toList = (strOfNums l0).toList
      · rw [if_pos c19] at H
        obtain ⟨c19b0, c19b1⟩ := eqT c19
        clear c19
        simp only [Option.some.injEq, Prod.mk.injEq] at H
        obtain ⟨rfl, rfl⟩ := H
        obtain ⟨Aox1, cox1, eox1⟩ := Kd.R_slice HO_y1.out
        subst eox1
        try go_wp2
        replace HO_y1 := aM (Kd.R_drew HO_y1.out)
        replace HB := aM (below_drew1 HB.out)
        refine start_ (n := 17) (S := fun w' => True) (ds := []) (bm 17 0) (by kernel_rfl) rfl (by kernel_rfl) trivial (fun hHeld => ?_); refine with_tabW spec_TupleOf.tab7 spec_TupleOf.bits7 (fun HT_ HW_ => ?_)
        generalize wc.drew = wx1 at HO_y1 HB hHeld ⊢
        refine pZ 0 29 (bm 17 1) HT_.out ?_
        refine pZ 1 30 (bm 17 3) HT_.out ?_
        refine pZ 2 31 (bm 17 7) HT_.out ?_
        refine pZ 3 32 (bm 17 15) HT_.out ?_
        refine pZ 4 33 (bm 17 31) HT_.out ?_
        refine pZ 5 34 (bm 17 63) HT_.out ?_
        refine oZ 6 (some 35) (bm 17 127) HT_.out (fun K hK => ?_)
        refine goesN Try.func21 #[.slice Aox1 x4_1.length cox1] ?_
        with_reducible refine (spec_TupleOk.calls kj1 _ _ x4_1 true _ ?side1 ?side2 A16.out).mono ?_
        (case side1 => repeat (first | exact (Kd.R_reads' HO_y1.out).2.2 | (with_reducible refine Kd.C_alloc ?_ _) | (with_reducible refine Kd.C_drewN ?_ _) | (with_reducible refine Kd.C_drew ?_)))
        (case side2 => exact (Kd.R_reads' HO_y1.out).2.1)
        rintro e wx2 ⟨rfl, hb⟩
        refine ⟨_, rfl, ?_⟩
        replace HO_y1 := aQ HO_y1 hb
        replace HB := aS HB hb
        (try clear hb)
        (try clear hb2)
        (try clear hk)
        (try clear hi)
        refine hK.out _ _ trivial (fun hHeld => ?_)
        clear hK K
        refine nZ 35 ?_
        refine pZ 7 36 (bm 17 255) HT_.out ?_
        refine pZ 8 37 (bm 17 511) HT_.out ?_
        refine pZ 9 38 (bm 17 1023) HT_.out ?_
        refine pZ 10 39 (bm 17 2047) HT_.out ?_
        refine pZ 13 42 (bm 17 10239) HT_.out ?_
        refine join_ (σ := Value) 2 #[true, true, true, true, true, true, true, true, true, true, true, true, true, true, true, false, false] (fun s_ => [(40, s_), (41, .string (strOfNums t113)), (43, .string (strOfNums l0))]) (fun s_ w' => (Kd.R (Kd.int .u8) 5 w' w.heap.size (fun _ => True) s_ t113) ∧ (Kd.R k37 37 w' w.heap.size (fun _ => True) (.slice Aox1 x4_1.length cox1) x4_1) ∧ (Below w.heap.size w w')) ?_ ?_
        rotate_left
        · intro hCont
          refine two_ (i := 11) (j := 14) (Ni := some 40) (Nj := some 43) #[true, true, true, true, true, true, true, true, true, true, true, true, false, true, false, false, false] #[true, true, true, true, true, true, true, true, true, true, true, false, false, true, true, false, false] rfl rfl rfl rfl (two_of HT_.out (by kernel_rfl)) (by decide) (by decide) (fun K hK => ?_) (fun K hK => ?_)
          · skip
            refine goesN Try.func44 #[.slice Aox1 x4_1.length cox1] ?_
            with_reducible refine (spec_TupleBytes.calls kj1 _ _ x4_1 t113 _ ?side1 ?side2 A18.out).mono ?_
            (case side1 => repeat (first | exact (Kd.R_reads' HO_y1.out).2.2 | (with_reducible refine Kd.C_alloc ?_ _) | (with_reducible refine Kd.C_drewN ?_ _) | (with_reducible refine Kd.C_drew ?_)))
            (case side2 => exact (Kd.R_reads' HO_y1.out).2.1)
            rintro e wx3 ⟨vx1, rfl, hox1, hb⟩
            refine ⟨_, rfl, ?_⟩
            have HOx1 := aM (Kd.R_lower hox1 (below_size (hX HB.out)))
            replace HO_y1 := aQ HO_y1 hb
            replace HB := aS HB hb
            (try clear hb)
            (try clear hb2)
            (try clear hk)
            (try clear hi)
            (try clear hox1)
            refine hK.out _ _ trivial (fun hHeld => ?_)
            clear hK K
            refine nZ 40 ?_
            refine two_ (i := 12) (j := 14) (Ni := some 41) (Nj := some 43) #[true, true, true, true, true, true, true, true, true, true, true, true, true, true, false, false, false] #[true, true, true, true, true, true, true, true, true, true, true, true, false, true, true, false, false] rfl rfl rfl rfl (two_of HT_.out (by kernel_rfl)) (by decide) (by decide) (fun K hK => ?_) (fun K hK => ?_)
            · skip
              have hcvx1 := own_string (P := Try.prog) Try.underlying22 Try.underlying5 Try.underlying9 (Kd.own_of_R HOx1.out)
              refine vZ ?_
              clear hcvx1
              refine hK.out _ _ trivial (fun hHeld => ?_)
              clear hK K
              refine nZ 41 ?_
              refine oZ 14 (some 43) (bm 17 32767) HT_.out (fun K hK => ?_)
              have hcvx2 := Kd.C_string (P := Try.prog) (A := A0) (c := c0) Try.underlying22 Try.underlying5 Try.underlying9 (Kd.C_below HR0.out HB.out)
              refine vZ ?_
              clear hcvx2
              refine hK.out _ _ trivial (fun hHeld => ?_)
              clear hK K
              refine nZ 43 ?_
              exact norm_ (by simp only [putAll, Act.put, List.setIfInBounds_toArray, List.set_cons_zero, List.set_cons_succ]) (hCont (vx1) _ ⟨(rX HOx1.out), (rX HO_y1.out), (hX HB.out)⟩)
            skip
            have hcvx1 := Kd.C_string (P := Try.prog) (A := A0) (c := c0) Try.underlying22 Try.underlying5 Try.underlying9 (Kd.C_below HR0.out HB.out)
            refine vZ ?_
            clear hcvx1
            refine hK.out _ _ trivial (fun hHeld => ?_)
            clear hK K
            refine nZ 43 ?_
            refine oZ 12 (some 41) (bm 17 32767) HT_.out (fun K hK => ?_)
            have hcvx2 := own_string (P := Try.prog) Try.underlying22 Try.underlying5 Try.underlying9 (Kd.own_of_R HOx1.out)
            refine vZ ?_
            clear hcvx2
            refine hK.out _ _ trivial (fun hHeld => ?_)
            clear hK K
            refine nZ 41 ?_
            exact norm_ (by simp only [putAll, Act.put, List.setIfInBounds_toArray, List.set_cons_zero, List.set_cons_succ]) (hCont (vx1) _ ⟨(rX HOx1.out), (rX HO_y1.out), (hX HB.out)⟩)
          skip
          have hcvx3 := Kd.C_string (P := Try.prog) (A := A0) (c := c0) Try.underlying22 Try.underlying5 Try.underlying9 (Kd.C_below HR0.out HB.out)
          refine vZ ?_
          clear hcvx3
          refine hK.out _ _ trivial (fun hHeld => ?_)
          clear hK K
          refine nZ 43 ?_
          refine oZ 11 (some 40) (bm 17 28671) HT_.out (fun K hK => ?_)
          refine goesN Try.func44 #[.slice Aox1 x4_1.length cox1] ?_
          with_reducible refine (spec_TupleBytes.calls kj1 _ _ x4_1 t113 _ ?side1 ?side2 A18.out).mono ?_
          (case side1 => repeat (first | exact (Kd.R_reads' HO_y1.out).2.2 | (with_reducible refine Kd.C_alloc ?_ _) | (with_reducible refine Kd.C_drewN ?_ _) | (with_reducible refine Kd.C_drew ?_)))
          (case side2 => exact (Kd.R_reads' HO_y1.out).2.1)
          rintro e wx4 ⟨vx1, rfl, hox1, hb⟩
          refine ⟨_, rfl, ?_⟩
          have HOx1 := aM (Kd.R_lower hox1 (below_size (hX HB.out)))
          replace HO_y1 := aQ HO_y1 hb
          replace HB := aS HB hb
          (try clear hb)
          (try clear hb2)
          (try clear hk)
          (try clear hi)
          (try clear hox1)
          refine hK.out _ _ trivial (fun hHeld => ?_)
          clear hK K
          refine nZ 40 ?_
          refine oZ 12 (some 41) (bm 17 32767) HT_.out (fun K hK => ?_)
          have hcvx2 := own_string (P := Try.prog) Try.underlying22 Try.underlying5 Try.underlying9 (Kd.own_of_R HOx1.out)
          refine vZ ?_
          clear hcvx2
          refine hK.out _ _ trivial (fun hHeld => ?_)
          clear hK K
          refine nZ 41 ?_
          exact norm_ (by simp only [putAll, Act.put, List.setIfInBounds_toArray, List.set_cons_zero, List.set_cons_succ]) (hCont (vx1) _ ⟨(rX HOx1.out), (rX HO_y1.out), (hX HB.out)⟩)
        rintro vx1 wx5 ⟨hx1, hx2, hx3⟩
        have nx1 : Aside0 (Kd.R (Kd.int .u8) 5 wx5 w.heap.size (fun _ => True) vx1 t113) := ⟨hx1⟩
        have nx2 : Aside0 (Kd.R k37 37 wx5 w.heap.size (fun _ => True) (.slice Aox1 x4_1.length cox1) x4_1) := ⟨hx2⟩
        have nx3 : Aside0 (Below w.heap.size w wx5) := ⟨hx3⟩
        clear HO_y1
        clear HB
        clear hx1 hx2 hx3
        have HOx1 := nx1
        have HO_y1 := nx2
        have HB := nx3
        clear nx1 nx2 nx3
        have hHeld := trivial
        refine norm_ (a' := ?_) ?_ ?_
        rotate_left
        · simp only [putAll, Act.put, List.setIfInBounds_toArray, List.set_cons_zero, List.set_cons_succ]
          rfl
        refine pZ 15 44 (bm 17 65535) HT_.out ?_
        refine pZ 16 45 (bm 17 131071) HT_.out ?_
        refine done_ (done_of HT_.out (by kernel_rfl)) ?_
        try go_wp2
        go_ret2
        exact ⟨_, rE, (rX HO_y1.out), (hX HB.out)⟩
      rw [if_neg c19] at H
      obtain ⟨c19b0, c19b1⟩ := eqF c19
      obtain ⟨y116, hy116⟩ : ∃ y_ : List (S37), y_ = (([] : List (S37))) := ⟨_, rfl⟩
      replace H : (some (y116, false)) = some (r1, r2) := yH H hy116
      have Ny116 := aM hy116
      clear hy116
      simp only [Option.some.injEq, Prod.mk.injEq] at H
      obtain ⟨rfl, rfl⟩ := H
      obtain ⟨Aox1, cox1, eox1⟩ := Kd.R_slice HO_y1.out
      subst eox1
      try go_wp2
      replace HO_y1 := aM (Kd.R_drew HO_y1.out)
      replace HB := aM (below_drew1 HB.out)
      refine start_ (n := 17) (S := fun w' => True) (ds := []) (bm 17 0) (by kernel_rfl) rfl (by kernel_rfl) trivial (fun hHeld => ?_); refine with_tabW spec_TupleOf.tab7 spec_TupleOf.bits7 (fun HT_ HW_ => ?_)
      generalize wc.drew = wx1 at HO_y1 HB hHeld ⊢
      refine pZ 0 29 (bm 17 1) HT_.out ?_
      refine pZ 1 30 (bm 17 3) HT_.out ?_
      refine pZ 2 31 (bm 17 7) HT_.out ?_
      refine pZ 3 32 (bm 17 15) HT_.out ?_
      refine pZ 4 33 (bm 17 31) HT_.out ?_
      refine pZ 5 34 (bm 17 63) HT_.out ?_
      refine oZ 6 (some 35) (bm 17 127) HT_.out (fun K hK => ?_)
      refine goesN Try.func21 #[.slice Aox1 x4_1.length cox1] ?_
      with_reducible refine (spec_TupleOk.calls kj1 _ _ x4_1 true _ ?side1 ?side2 A16.out).mono ?_
      (case side1 => repeat (first | exact (Kd.R_reads' HO_y1.out).2.2 | (with_reducible refine Kd.C_alloc ?_ _) | (with_reducible refine Kd.C_drewN ?_ _) | (with_reducible refine Kd.C_drew ?_)))
      (case side2 => exact (Kd.R_reads' HO_y1.out).2.1)
      rintro e wx2 ⟨rfl, hb⟩
      refine ⟨_, rfl, ?_⟩
      replace HO_y1 := aQ HO_y1 hb
      replace HB := aS HB hb
      (try clear hb)
      (try clear hb2)
      (try clear hk)
      (try clear hi)
      refine hK.out _ _ trivial (fun hHeld => ?_)
      clear hK K
      refine nZ 35 ?_
      refine pZ 7 36 (bm 17 255) HT_.out ?_
      refine pZ 8 37 (bm 17 511) HT_.out ?_
      refine pZ 9 38 (bm 17 1023) HT_.out ?_
      refine pZ 10 39 (bm 17 2047) HT_.out ?_
      refine pZ 13 42 (bm 17 10239) HT_.out ?_
      refine join_ (σ := Value) 2 #[true, true, true, true, true, true, true, true, true, true, true, true, true, true, true, false, false] (fun s_ => [(40, s_), (41, .string (strOfNums t113)), (43, .string (strOfNums l0))]) (fun s_ w' => (Kd.R (Kd.int .u8) 5 w' w.heap.size (fun _ => True) s_ t113) ∧ (Kd.R k37 37 w' w.heap.size (fun _ => True) (.slice Aox1 x4_1.length cox1) x4_1) ∧ (Below w.heap.size w w')) ?_ ?_
      rotate_left
      · intro hCont
        refine two_ (i := 11) (j := 14) (Ni := some 40) (Nj := some 43) #[true, true, true, true, true, true, true, true, true, true, true, true, false, true, false, false, false] #[true, true, true, true, true, true, true, true, true, true, true, false, false, true, true, false, false] rfl rfl rfl rfl (two_of HT_.out (by kernel_rfl)) (by decide) (by decide) (fun K hK => ?_) (fun K hK => ?_)
        · skip
          refine goesN Try.func44 #[.slice Aox1 x4_1.length cox1] ?_
          with_reducible refine (spec_TupleBytes.calls kj1 _ _ x4_1 t113 _ ?side1 ?side2 A18.out).mono ?_
          (case side1 => repeat (first | exact (Kd.R_reads' HO_y1.out).2.2 | (with_reducible refine Kd.C_alloc ?_ _) | (with_reducible refine Kd.C_drewN ?_ _) | (with_reducible refine Kd.C_drew ?_)))
          (case side2 => exact (Kd.R_reads' HO_y1.out).2.1)
          rintro e wx3 ⟨vx1, rfl, hox1, hb⟩
          refine ⟨_, rfl, ?_⟩
          have HOx1 := aM (Kd.R_lower hox1 (below_size (hX HB.out)))
          replace HO_y1 := aQ HO_y1 hb
          replace HB := aS HB hb
          (try clear hb)
          (try clear hb2)
          (try clear hk)
          (try clear hi)
          (try clear hox1)
          refine hK.out _ _ trivial (fun hHeld => ?_)
          clear hK K
          refine nZ 40 ?_
          refine two_ (i := 12) (j := 14) (Ni := some 41) (Nj := some 43) #[true, true, true, true, true, true, true, true, true, true, true, true, true, true, false, false, false] #[true, true, true, true, true, true, true, true, true, true, true, true, false, true, true, false, false] rfl rfl rfl rfl (two_of HT_.out (by kernel_rfl)) (by decide) (by decide) (fun K hK => ?_) (fun K hK => ?_)
          · skip
            have hcvx1 := own_string (P := Try.prog) Try.underlying22 Try.underlying5 Try.underlying9 (Kd.own_of_R HOx1.out)
            refine vZ ?_
            clear hcvx1
            refine hK.out _ _ trivial (fun hHeld => ?_)
            clear hK K
            refine nZ 41 ?_
            refine oZ 14 (some 43) (bm 17 32767) HT_.out (fun K hK => ?_)
            have hcvx2 := Kd.C_string (P := Try.prog) (A := A0) (c := c0) Try.underlying22 Try.underlying5 Try.underlying9 (Kd.C_below HR0.out HB.out)
            refine vZ ?_
            clear hcvx2
            refine hK.out _ _ trivial (fun hHeld => ?_)
            clear hK K
            refine nZ 43 ?_
            exact norm_ (by simp only [putAll, Act.put, List.setIfInBounds_toArray, List.set_cons_zero, List.set_cons_succ]) (hCont (vx1) _ ⟨(rX HOx1.out), (rX HO_y1.out), (hX HB.out)⟩)
          skip
          have hcvx1 := Kd.C_string (P := Try.prog) (A := A0) (c := c0) Try.underlying22 Try.underlying5 Try.underlying9 (Kd.C_below HR0.out HB.out)
          refine vZ ?_
          clear hcvx1
          refine hK.out _ _ trivial (fun hHeld => ?_)
          clear hK K
          refine nZ 43 ?_
          refine oZ 12 (some 41) (bm 17 32767) HT_.out (fun K hK => ?_)
          have hcvx2 := own_string (P := Try.prog) Try.underlying22 Try.underlying5 Try.underlying9 (Kd.own_of_R HOx1.out)
          refine vZ ?_
          clear hcvx2
          refine hK.out _ _ trivial (fun hHeld => ?_)
          clear hK K
          refine nZ 41 ?_
          exact norm_ (by simp only [putAll, Act.put, List.setIfInBounds_toArray, List.set_cons_zero, List.set_cons_succ]) (hCont (vx1) _ ⟨(rX HOx1.out), (rX HO_y1.out), (hX HB.out)⟩)
        skip
        have hcvx3 := Kd.C_string (P := Try.prog) (A := A0) (c := c0) Try.underlying22 Try.underlying5 Try.underlying9 (Kd.C_below HR0.out HB.out)
        refine vZ ?_
        clear hcvx3
        refine hK.out _ _ trivial (fun hHeld => ?_)
        clear hK K
        refine nZ 43 ?_
        refine oZ 11 (some 40) (bm 17 28671) HT_.out (fun K hK => ?_)
        refine goesN Try.func44 #[.slice Aox1 x4_1.length cox1] ?_
        with_reducible refine (spec_TupleBytes.calls kj1 _ _ x4_1 t113 _ ?side1 ?side2 A18.out).mono ?_
        (case side1 => repeat (first | exact (Kd.R_reads' HO_y1.out).2.2 | (with_reducible refine Kd.C_alloc ?_ _) | (with_reducible refine Kd.C_drewN ?_ _) | (with_reducible refine Kd.C_drew ?_)))
        (case side2 => exact (Kd.R_reads' HO_y1.out).2.1)
        rintro e wx4 ⟨vx1, rfl, hox1, hb⟩
        refine ⟨_, rfl, ?_⟩
        have HOx1 := aM (Kd.R_lower hox1 (below_size (hX HB.out)))
        replace HO_y1 := aQ HO_y1 hb
        replace HB := aS HB hb
        (try clear hb)
        (try clear hb2)
        (try clear hk)
        (try clear hi)
        (try clear hox1)
        refine hK.out _ _ trivial (fun hHeld => ?_)
        clear hK K
        refine nZ 40 ?_
        refine oZ 12 (some 41) (bm 17 32767) HT_.out (fun K hK => ?_)
        have hcvx2 := own_string (P := Try.prog) Try.underlying22 Try.underlying5 Try.underlying9 (Kd.own_of_R HOx1.out)
        refine vZ ?_
        clear hcvx2
        refine hK.out _ _ trivial (fun hHeld => ?_)
        clear hK K
        refine nZ 41 ?_
        exact norm_ (by simp only [putAll, Act.put, List.setIfInBounds_toArray, List.set_cons_zero, List.set_cons_succ]) (hCont (vx1) _ ⟨(rX HOx1.out), (rX HO_y1.out), (hX HB.out)⟩)
      rintro vx1 wx5 ⟨hx1, hx2, hx3⟩
      have nx1 : Aside0 (Kd.R (Kd.int .u8) 5 wx5 w.heap.size (fun _ => True) vx1 t113) := ⟨hx1⟩
      have nx2 : Aside0 (Kd.R k37 37 wx5 w.heap.size (fun _ => True) (.slice Aox1 x4_1.length cox1) x4_1) := ⟨hx2⟩
      have nx3 : Aside0 (Below w.heap.size w wx5) := ⟨hx3⟩
      clear HO_y1
      clear HB
      clear hx1 hx2 hx3
      have HOx1 := nx1
      have HO_y1 := nx2
      have HB := nx3
      clear nx1 nx2 nx3
      have hHeld := trivial
      refine norm_ (a' := ?_) ?_ ?_
      rotate_left
      · simp only [putAll, Act.put, List.setIfInBounds_toArray, List.set_cons_zero, List.set_cons_succ]
        rfl
      refine pZ 15 44 (bm 17 65535) HT_.out ?_
      refine pZ 16 45 (bm 17 131071) HT_.out ?_
      refine done_ (done_of HT_.out (by kernel_rfl)) ?_
      try go_wp2_with (first | ((with_reducible refine gate_dst (N := 46) rfl ?_); (try (refine gate_guard (by rfl) ?_; dsimp only)); refine Kd.R_lit k37 _ 37 ?hg (N := 46) ?hd (xs := ([] : List (S37))) (inner := []) (ok := fun _ => True) (okp := fun _ => True) ?hr ?hp (fun _ hk => hk) trivial (Below.refl _ _) (Nat.le_refl _) (by simp) ?_; (case hd => rfl); (case hg => rfl); (case hr => first | (go_simp; done) | (go_simp; rfl)); (case hp => exact (Reps.none _ _)); intro vx2 wx6 hox2 hb hg_ hnew_; clear hg_ hnew_; (first | rw [← Ny116.out] at hox2 | (simp only [Int.reduceToNat] at hox2; rw [← Ny116.out] at hox2)); have HOx2 := aM (Kd.R_lower (Kd.R_new' hox2 (Kd.R_lt (rX HO_y1.out))) (below_size (hX HB.out))); replace HO_y1 := aM (Kd.R_elder' (rX HO_y1.out) (Kd.R_base hox2) hb); replace HOx1 := aQ HOx1 hb; replace HB := aS HB hb; clear hb hox2))
      go_ret2
      exact ⟨_, rE, (rT (h := by exact Kd.R_mono HOx2.out (fun _ hk => trivial))), (hX HB.out)⟩
def spec_DrawTupleOk.f (k : Nat) (l0 : List Int) : Option ((List (S37))) := (spec_l1New.f k l0).bind fun bt101 => ((spec_l18Draw.f k bt101.1 bt101.2.1 bt101.2.2).bind fun bt105 => (some bt105.1))
set_option maxHeartbeats 8000000 in
set_option maxRecDepth 100000 in
theorem spec_DrawTupleOk.calls (k : Nat) (A0 : Option Addr) (c0 : Nat) (l0 : List Int) (r : List (S37)) (w : World) (hr0 : Kd.C (Kd.int .u8) w A0 l0.length l0) (hc0 : l0.length ≤ c0) (h : spec_DrawTupleOk.f k l0 = some r) :
    Calls Try.prog 42 #[.slice A0 l0.length c0] w fun e w' => ∃ v0_ : Value, e = .returned (v0_) ∧ Kd.R k37 37 w' w.heap.size (fun _ => True) v0_ r ∧ Below w.heap.size w w' := by
  have HR0 := aM hr0
  have HC0 := aM hc0
  clear hr0 hc0
  have HB := aM (Below.refl w.heap.size w)
  have H := h
  unfold spec_DrawTupleOk.f at H
  clear h
  replace H := bE H; obtain ⟨⟨t101, t102, t103⟩, A2, H⟩ := H
  try dsimp only at H
  replace H := bE H; obtain ⟨⟨t105, t108, t109⟩, A3, H⟩ := H
  try dsimp only at H
  obtain rfl := sI H
  go_enter Try.func42, Try.ntmps42
  go_wp2_with (first | ((with_reducible refine gate_callee (f := 47) rfl ?_); refine goesM 47 4 Try.func47 #[.slice A0 l0.length c0] ?_; refine (spec_l1New.calls k _ _ l0 t101 t102 t103 w _ (by repeat (first | (with_reducible first | exact HB.out | apply below_alloc | apply pw_below_drewN | apply below_drew1) | exact HB.out)) HR0.out HC0.out A2.out).mono ?_; rintro e wz1 ⟨gz1, rfl, hi, hb, hbz1⟩; refine ⟨_, rfl, ?_⟩; have HIz1 := aM (hi); replace HB := aM (hb); clear hb hbz1 hi) | ((with_reducible refine gate_callee (f := 48) rfl ?_); refine goesM 48 5 Try.func48 #[.pointer (some ⟨gz1, 0, none⟩)] ?_; refine (spec_l18Draw.calls k gz1 t101 t102 t103 t105 t108 t109 w _ (by repeat (first | (with_reducible first | exact HIz1.out | apply IsS96.alloc | apply IsS96.drewN | apply IsS96.drew | apply IsS96.set_1 | apply IsS96.set_2) | exact HIz1.out)) (by repeat (first | (with_reducible first | exact HB.out | apply below_alloc | apply pw_below_drewN | apply below_drew1 | refine below_set ?_ (IsS96.ge HIz1.out)) | exact HB.out)) A3.out).mono ?_; rintro e wz2 ⟨vz1, rfl, hoz1, hi, hb, hk⟩; refine ⟨_, rfl, ?_⟩; have HOz1 := aM (Kd.R_lower hoz1 (below_size (hY HB.out (IsS96.ge HIz1.out)))); replace HB := aM (hb); replace HIz1 := aM (hi); clear hb hk hi hoz1))
  go_ret
  exact ⟨_, rE, (rX HOz1.out), (hY HB.out (IsS96.ge HIz1.out))⟩
def spec_DrawTupleText.f (k : Nat) (l0 : List Int) : Option ((List (S37))) := (spec_l1New.f k l0).bind fun bt101 => ((spec_l18Draw.f k bt101.1 bt101.2.1 bt101.2.2).bind fun bt105 => (some bt105.1))
set_option maxHeartbeats 8000000 in
set_option maxRecDepth 100000 in
theorem spec_DrawTupleText.calls (k : Nat) (A0 : Option Addr) (c0 : Nat) (l0 : List Int) (r : List (S37)) (w : World) (hr0 : Kd.C (Kd.int .u8) w A0 l0.length l0) (hc0 : l0.length ≤ c0) (h : spec_DrawTupleText.f k l0 = some r) :
    Calls Try.prog 43 #[.slice A0 l0.length c0] w fun e w' => ∃ v0_ : Value, e = .returned (v0_) ∧ Kd.R k37 37 w' w.heap.size (fun _ => True) v0_ r ∧ Below w.heap.size w w' := by
  have HR0 := aM hr0
  have HC0 := aM hc0
  clear hr0 hc0
  have HB := aM (Below.refl w.heap.size w)
  have H := h
  unfold spec_DrawTupleText.f at H
  clear h
  replace H := bE H; obtain ⟨⟨t101, t102, t103⟩, A2, H⟩ := H
  try dsimp only at H
  replace H := bE H; obtain ⟨⟨t105, t108, t109⟩, A3, H⟩ := H
  try dsimp only at H
  obtain rfl := sI H
  go_enter Try.func43, Try.ntmps43
  go_wp2_with (first | ((with_reducible refine gate_callee (f := 47) rfl ?_); refine goesM 47 4 Try.func47 #[.slice A0 l0.length c0] ?_; refine (spec_l1New.calls k _ _ l0 t101 t102 t103 w _ (by repeat (first | (with_reducible first | exact HB.out | apply below_alloc | apply pw_below_drewN | apply below_drew1) | exact HB.out)) HR0.out HC0.out A2.out).mono ?_; rintro e wz1 ⟨gz1, rfl, hi, hb, hbz1⟩; refine ⟨_, rfl, ?_⟩; have HIz1 := aM (hi); replace HB := aM (hb); clear hb hbz1 hi) | ((with_reducible refine gate_callee (f := 48) rfl ?_); refine goesM 48 5 Try.func48 #[.pointer (some ⟨gz1, 0, none⟩)] ?_; refine (spec_l18Draw.calls k gz1 t101 t102 t103 t105 t108 t109 w _ (by repeat (first | (with_reducible first | exact HIz1.out | apply IsS96.alloc | apply IsS96.drewN | apply IsS96.drew | apply IsS96.set_1 | apply IsS96.set_2) | exact HIz1.out)) (by repeat (first | (with_reducible first | exact HB.out | apply below_alloc | apply pw_below_drewN | apply below_drew1 | refine below_set ?_ (IsS96.ge HIz1.out)) | exact HB.out)) A3.out).mono ?_; rintro e wz2 ⟨vz1, rfl, hoz1, hi, hb, hk⟩; refine ⟨_, rfl, ?_⟩; have HOz1 := aM (Kd.R_lower hoz1 (below_size (hY HB.out (IsS96.ge HIz1.out)))); replace HB := aM (hb); replace HIz1 := aM (hi); clear hb hk hi hoz1))
  go_ret
  exact ⟨_, rE, (rX HOz1.out), (hY HB.out (IsS96.ge HIz1.out))⟩
mutual
def impl_Digits.j0 : Nat → Int → Bool → Option (ByteArray)
  | 0, _, _ => none
  | k + 1, x0, x3 => if x3 = true then ((impl_Digits.f k (wrap64 (-x0))).bind fun t101 => (if 1 + t101.size ≤ 9223372036854775807 then (some ((⟨#[45]⟩ : ByteArray) ++ t101)) else (none))) else (if x0 < 0 then ((impl_Digits.f k (wrap64 (Int.tdiv x0 10))).bind fun t102 => ((impl_Digits.f k (wrap64 (-(Int.tmod x0 10)))).bind fun t103 => (if t102.size + t103.size ≤ 9223372036854775807 then (some (t102 ++ t103)) else (none)))) else (if x0 < 10 then (some (Go.Utf8.encode (wrap32 (wrap64 (48 + x0))))) else ((impl_Digits.f k (wrap64 (Int.tdiv x0 10))).bind fun t104 => (if t104.size + (Go.Utf8.encode (wrap32 (wrap64 (48 + (Int.tmod x0 10))))).size ≤ 9223372036854775807 then (some (t104 ++ (Go.Utf8.encode (wrap32 (wrap64 (48 + (Int.tmod x0 10))))))) else (none)))))
def impl_Digits.f : Nat → Int → Option (ByteArray)
  | 0, _ => none
  | k + 1, a0 => if a0 < 0 then (impl_Digits.j0 k a0 (decide (a0 > (-10)))) else (impl_Digits.j0 k a0 false)
end
set_option maxHeartbeats 8000000 in
set_option maxRecDepth 100000 in
theorem impl_Digits.calls (k : Nat) : ∀ (a0 : Int) (r : ByteArray) (w : World) (h : impl_Digits.f k a0 = some r),
    Calls Try.prog 60 #[.int .i64 a0] w fun e w' => e = .returned (.string r) ∧ Drawn0 w w' := by
  induction k using Nat.strongRecOn with
  | _ k ih =>
  intro a0 r w h
  cases k with
  | zero => exact absurd h (by simp [impl_Digits.f])
  | succ k =>
  simp only [impl_Digits.f] at h
  have H := h
  unfold impl_Digits.f at H
  clear h
  have HCz1 := aM H
  clear H
  go_enter Try.func60, Try.ntmps60
  go_upto_region 1 with (fail)
  go_cut [3] (fun vz1 wc => ∃ (kq : Nat) (x3_1 : Bool), vz1 = .bool x3_1 ∧ Aside0 (impl_Digits.j0 kq a0 x3_1 = some r) ∧ Aside0 (kq ≤ k) ∧ Drawn0 w wc)
  case first =>
    have H := HCz1.out
    clear HCz1
    by_cases c3 : a0 < 0
    case neg =>
      rw [if_neg c3] at H
      have c3b0 := decide_eq_false c3
      clear c3
      (first | rw [c3b0] | (simp only [i64_w, i32_w]; rw [c3b0]) | skip)
      have H' := aM H
      clear H
      go_wp2
      go_meet
      case rel => exact ⟨_, (false), rS, H', ⟨by first | omega | exact Nat.le_refl _⟩, dX⟩
    rw [if_pos c3] at H
    have c3b0 := decide_eq_true c3
    clear c3
    (first | rw [c3b0] | (simp only [i64_w, i32_w]; rw [c3b0]) | skip)
    have H' := aM H
    clear H
    go_wp2
    go_meet
    case rel => exact ⟨_, (decide (a0 > (-10))), rS, H', ⟨by first | omega | exact Nat.le_refl _⟩, dX⟩
  case rest =>
    clear HCz1
    try clear p2
    obtain ⟨kq, x3_1, rfl, HA, HJy1, ⟨mcy1, rfl⟩⟩ := hcut
    cases kq with
    | zero => exact absurd HA.out (by simp [impl_Digits.j0])
    | succ kj1 =>
      have H := HA.out
      clear HA
      simp only [impl_Digits.j0] at H
      by_cases c4 : x3_1 = true
      · subst c4
        rw [if_pos rfl] at H
        replace H := bE H; obtain ⟨t101, A5, H⟩ := H
        replace H := ifP H; obtain ⟨c6, H⟩ := H
        have c6b0 := eq_true c6
        have c6b1 := decide_eq_true c6
        try have c6b2 : (9223372036854775807 < 1 + t101.size) = False := eq_false (Nat.not_lt.2 c6)
        obtain rfl := sI H
        go_wp2_with (first | (refine goesM 60 12 Try.func60 #[.int .i64 (wrap64 (-a0))] ?_; refine (ih kj1 (by have := HJy1.out; omega) (wrap64 (-a0)) t101 _ A5.out).mono ?_; rintro e w' ⟨rfl, ⟨nd, rfl⟩⟩; refine ⟨_, rfl, ?_⟩))
        go_ret
        exact ⟨by first | rfl | (simp; done) | (simp [*]; done), dX⟩
      replace c4 := Bool.eq_false_iff.mpr c4
      subst c4
      rw [if_neg nft] at H
      by_cases c7 : a0 < 0
      · rw [if_pos c7] at H
        have c7b0 := decide_eq_true c7
        clear c7
        replace H := bE H; obtain ⟨t102, A8, H⟩ := H
        replace H := bE H; obtain ⟨t103, A9, H⟩ := H
        replace H := ifP H; obtain ⟨c10, H⟩ := H
        have c10b0 := eq_true c10
        have c10b1 := decide_eq_true c10
        try have c10b2 : (9223372036854775807 < t102.size + t103.size) = False := eq_false (Nat.not_lt.2 c10)
        obtain rfl := sI H
        go_wp2_with (first | ((with_reducible refine gate_callee (f := 60) rfl ?_); refine goesM 60 19 Try.func60 #[.int .i64 (wrap64 (Int.tdiv a0 10))] ?_; refine (ih kj1 (by have := HJy1.out; omega) (wrap64 (Int.tdiv a0 10)) t102 _ A8.out).mono ?_; rintro e w' ⟨rfl, ⟨nd, rfl⟩⟩; refine ⟨_, rfl, ?_⟩) | ((with_reducible refine gate_callee (f := 60) rfl ?_); refine goesM 60 23 Try.func60 #[.int .i64 (wrap64 (-(Int.tmod a0 10)))] ?_; refine (ih kj1 (by have := HJy1.out; omega) (wrap64 (-(Int.tmod a0 10))) t103 _ A9.out).mono ?_; rintro e w' ⟨rfl, ⟨nd, rfl⟩⟩; refine ⟨_, rfl, ?_⟩))
        go_ret
        exact ⟨by first | rfl | (simp; done) | (simp [*]; done), dX⟩
      rw [if_neg c7] at H
      have c7b0 := decide_eq_false c7
      clear c7
      by_cases c11 : a0 < 10
      · rw [if_pos c11] at H
        have c11b0 := decide_eq_true c11
        clear c11
        obtain rfl := sI H
        go_wp2
        go_ret
        exact ⟨by first | rfl | (simp; done) | (simp [*]; done), dX⟩
      rw [if_neg c11] at H
      have c11b0 := decide_eq_false c11
      clear c11
      replace H := bE H; obtain ⟨t104, A12, H⟩ := H
      replace H := ifP H; obtain ⟨c13, H⟩ := H
      have c13b0 := eq_true c13
      have c13b1 := decide_eq_true c13
      try have c13b2 : (9223372036854775807 < t104.size + (Go.Utf8.encode (wrap32 (wrap64 (48 + (Int.tmod a0 10))))).size) = False := eq_false (Nat.not_lt.2 c13)
      obtain rfl := sI H
      go_wp2_with (first | (refine goesM 60 34 Try.func60 #[.int .i64 (wrap64 (Int.tdiv a0 10))] ?_; refine (ih kj1 (by have := HJy1.out; omega) (wrap64 (Int.tdiv a0 10)) t104 _ A12.out).mono ?_; rintro e w' ⟨rfl, ⟨nd, rfl⟩⟩; refine ⟨_, rfl, ?_⟩))
      go_ret
      exact ⟨by first | rfl | (simp; done) | (simp [*]; done), dX⟩
mutual
def impl_ValueText.j0 : Nat → Bool → Int → Int → ByteArray → Option (ByteArray)
  | 0, _, _, _, _ => none
  | k + 1, x20, x102000, x102001, x102002 => if x20 = true then (some (⟨#[110, 111]⟩ : ByteArray)) else (if x102000 = 1 then (some (⟨#[121, 101, 115]⟩ : ByteArray)) else (impl_ValueText.l0 k (([34] : List Int)) (x102002.size : Int) 0 x102000 x102001 x102002))
def impl_ValueText.l0 : Nat → List Int → Int → Int → Int → Int → ByteArray → Option (ByteArray)
  | 0, _, _, _, _, _, _ => none
  | k + 1, x3, x36, x37, x102000, x102001, x102002 => if x37 < x36 then (if 0 ≤ x37 then (if x37 < (x102002.size : Int) then (if 0 ≤ ((bt x102002 x37) / 16) then (if ((bt x102002 x37) / 16) < 16 then (if 0 ≤ (Go.bits .and .u8 (bt x102002 x37) 15) then (if (Go.bits .and .u8 (bt x102002 x37) 15) < 16 then ((some (([bt (⟨#[48, 49, 50, 51, 52, 53, 54, 55, 56, 57, 97, 98, 99, 100, 101, 102]⟩ : ByteArray) ((bt x102002 x37) / 16), bt (⟨#[48, 49, 50, 51, 52, 53, 54, 55, 56, 57, 97, 98, 99, 100, 101, 102]⟩ : ByteArray) (Go.bits .and .u8 (bt x102002 x37) 15)] : List Int) : List Int)).bind fun y107 => (if x3.length + y107.length < 140737488355328 then (impl_ValueText.l0 k (x3 ++ y107) x36 (wrap64 (x37 + 1)) x102000 x102001 x102002) else (none))) else (none)) else (none)) else (none)) else (none)) else (none)) else (none)) else (some (strOfNums x3))
end
def impl_ValueText.f (k : Nat) (a0_0 : Int) (a0_1 : Int) (a0_2 : ByteArray) : Option (ByteArray) := (impl_ValueOk.f a0_0 a0_1 a0_2).bind fun t102 => (if t102 = true then (if a0_0 = 0 then (some (⟨#[110, 117, 108, 108]⟩ : ByteArray)) else (if a0_0 = 2 then ((impl_Digits.f k a0_1).bind fun t103 => (some t103)) else (if a0_0 = 1 then (impl_ValueText.j0 k (a0_1 == 0) a0_0 a0_1 a0_2) else (impl_ValueText.j0 k false a0_0 a0_1 a0_2)))) else (some (⟨#[98, 97, 100]⟩ : ByteArray)))
def impl_ValueText.T15 : Bool × List (List Nat × List Nat) := (true, [([], []), ([], []), ([1], [1]), ([], []), ([2, 3], [2, 3]), ([4], [4]), ([5], [5]), ([], []), ([7], [7]), ([], []), ([8, 9], [8, 9]), ([10], [10]), ([11], [11]), ([6, 12], [6, 12]), ([0, 13], [0, 13]), ([14, 14, 0, 1, 2, 3, 4, 5, 6, 7, 8, 9, 10, 11, 12, 13, 14], [0, 14])])
def impl_ValueText.B15 : List Nat := [0, 0, 2, 0, 14, 30, 62, 0, 128, 0, 896, 1920, 3968, 8190, 16383, 32767]
theorem impl_ValueText.tab15 : rtab .any (opsOf Try.f32 15) = impl_ValueText.T15 := by kernel_rfl
theorem impl_ValueText.bits15 : waitsOk impl_ValueText.T15.2 impl_ValueText.B15 = true := by kernel_rfl
set_option maxHeartbeats 8000000 in
set_option maxRecDepth 100000 in
theorem impl_ValueText.calls (k : Nat) (a0_0 : Int) (a0_1 : Int) (a0_2 : ByteArray) (r : ByteArray) (w : World) (h : impl_ValueText.f k a0_0 a0_1 a0_2 = some r) :
    Calls Try.prog 32 #[.agg #[.int .i64 a0_0, .int .i64 a0_1, .string a0_2]] w fun e w' => e = .returned (.string r) ∧ Below w.heap.size w w' := by
  have hu37 := Try.underlying37
  have HB := aM (Below.refl w.heap.size w)
  have H := h
  unfold impl_ValueText.f at H
  clear h
  replace H := bE H; obtain ⟨t102, A2, H⟩ := H
  go_enter Try.func32, Try.ntmps32
  go_wp2_with (first | ((with_reducible refine gate_dst (N := 1) rfl ?_); refine boxE 1 #[.int .i64 a0_0, .int .i64 a0_1, .string a0_2] 37 ?_; intro gbz1 hg wz1 hbox hb; have BKz1 := aM (hbox); have GWz1 := aG hg HB; have GEz1 := aG hg HB; replace HB := aS HB hb; clear hb hbox hg; obtain ⟨hczz1, hczz2, hczz3, hfzz1, hfzz2, hfzz3⟩ := cZ3 BKz1.out; refine Stop.out ?_))
  refine ⟨?_⟩
  by_cases c3 : t102 = true
  case neg =>
    replace c3 := Bool.eq_false_iff.mpr c3
    subst c3
    rw [if_neg nft] at H
    obtain rfl := sI H
    go_wp2_with (first | ((with_reducible refine gate_callee (f := 30) rfl ?_); refine goesM 30 7 Try.func30 #[.agg #[.int .i64 a0_0, .int .i64 a0_1, .string a0_2]] ?_; refine (impl_ValueOk.calls _ _ _ _ _ A2.out).mono ?_; rintro e wz2 ⟨rfl, hb⟩; refine ⟨_, rfl, ?_⟩; replace BKz1 := aB BKz1 hb; replace HB := aS HB hb; clear hb))
    go_ret
    exact ⟨rE, (hX HB.out)⟩
  subst c3
  rw [if_pos rfl] at H
  go_wp2_with (first | ((with_reducible refine gate_callee (f := 30) rfl ?_); refine goesM 30 7 Try.func30 #[.agg #[.int .i64 a0_0, .int .i64 a0_1, .string a0_2]] ?_; refine (impl_ValueOk.calls _ _ _ _ _ A2.out).mono ?_; rintro e wz2 ⟨rfl, hb⟩; refine ⟨_, rfl, ?_⟩; replace BKz1 := aB BKz1 hb; replace HB := aS HB hb; clear hb; obtain ⟨hczz4, hczz5, hczz6, hfzz4, hfzz5, hfzz6⟩ := cZ3 BKz1.out; refine Stop.out ?_))
  refine ⟨?_⟩
  by_cases c4 : a0_0 = 0
  · rw [if_pos c4] at H
    obtain ⟨c4b0, c4b1⟩ := eqT c4
    clear c4
    obtain rfl := sI H
    go_wp2
    go_ret
    exact ⟨rE, (hX HB.out)⟩
  rw [if_neg c4] at H
  obtain ⟨c4b0, c4b1⟩ := eqF c4
  by_cases c9 : a0_0 = 2
  · rw [if_pos c9] at H
    obtain ⟨c9b0, c9b1⟩ := eqT c9
    clear c9
    replace H := bE H; obtain ⟨t103, A10, H⟩ := H
    obtain rfl := sI H
    go_wp2_with (first | ((with_reducible refine gate_callee (f := 60) rfl ?_); refine goesM 60 19 Try.func60 #[.int .i64 a0_1] ?_; refine (impl_Digits.calls _ _ _ _ A10.out).mono ?_; rintro e w' ⟨rfl, ⟨nd, rfl⟩⟩; refine ⟨_, rfl, ?_⟩))
    go_ret
    exact ⟨rE, (hX HB.out)⟩
  rw [if_neg c9] at H
  obtain ⟨c9b0, c9b1⟩ := eqF c9
  have HC15 := aM H
  clear H
  go_upto_region 7 with (fail)
  (try simp only [Act.put, List.setIfInBounds_toArray, List.set_cons_zero, List.set_cons_succ])
  go_cut [20] (fun vz1 wc => ∃ (kq : Nat) (x20_14 : Bool), vz1 = .bool x20_14 ∧ Aside0 (impl_ValueText.j0 kq x20_14 a0_0 a0_1 a0_2 = some r) ∧ Aside0 (kq ≤ k) ∧ Aside0 (wc.heap[gbz1]? = some (.cells #[.int .i64 a0_0, .int .i64 a0_1, .string a0_2] 37 (0, 0))) ∧ Aside0 (Below w.heap.size w wc))
  case first =>
    have H := HC15.out
    clear HC15
    by_cases c20 : a0_0 = 1
    case neg =>
      rw [if_neg c20] at H
      obtain ⟨c20b0, c20b1⟩ := eqF c20
      (first | rw [c20b0] | (simp only [i64_w, i32_w]; rw [c20b0]) | skip)
      have H' := aM H
      clear H
      obtain ⟨hczy1, hczy2, hczy3, hfzy1, hfzy2, hfzy3⟩ := cZ3 BKz1.out
      go_wp2
      go_meet
      case rel => exact ⟨_, (false), rS, H', ⟨by first | omega | exact Nat.le_refl _⟩, ⟨(bX BKz1.out)⟩, ⟨(hX HB.out)⟩⟩
    rw [if_pos c20] at H
    obtain ⟨c20b0, c20b1⟩ := eqT c20
    clear c20
    (first | rw [c20b0] | (simp only [i64_w, i32_w]; rw [c20b0]) | skip)
    have H' := aM H
    clear H
    obtain ⟨hczy1, hczy2, hczy3, hfzy1, hfzy2, hfzy3⟩ := cZ3 BKz1.out
    go_wp2
    go_meet
    case rel => exact ⟨_, ((a0_1 == 0)), rS, H', ⟨by first | omega | exact Nat.le_refl _⟩, ⟨(bX BKz1.out)⟩, ⟨(hX HB.out)⟩⟩
  case rest =>
    clear HC15
    try clear p2
    try clear c3
    try clear c4
    try clear c4b0
    try clear c4b1
    try clear c9
    try clear c9b0
    try clear c9b1
    try clear hczz1 hczz2 hczz3 hfzz1 hfzz2 hfzz3
    try clear hczz4 hczz5 hczz6 hfzz4 hfzz5 hfzz6
    obtain ⟨kq, x20_14, rfl, HA, HJy1, BKz1, HB⟩ := hcut
    cases kq with
    | zero => exact absurd HA.out (by simp [impl_ValueText.j0])
    | succ kj14 =>
      have H := HA.out
      clear HA
      simp only [impl_ValueText.j0] at H
      by_cases c23 : x20_14 = true
      · subst c23
        rw [if_pos rfl] at H
        obtain rfl := sI H
        go_wp2
        go_ret
        exact ⟨rE, (hX HB.out)⟩
      replace c23 := Bool.eq_false_iff.mpr c23
      subst c23
      rw [if_neg nft] at H
      by_cases c24 : a0_0 = 1
      · rw [if_pos c24] at H
        obtain ⟨c24b0, c24b1⟩ := eqT c24
        clear c24
        obtain rfl := sI H
        obtain ⟨hczx1, hczx2, hczx3, hfzx1, hfzx2, hfzx3⟩ := cZ3 BKz1.out
        go_wp2
        go_ret
        exact ⟨rE, (hX HB.out)⟩
      rw [if_neg c24] at H
      obtain ⟨c24b0, c24b1⟩ := eqF c24
      obtain ⟨y104, hy104⟩ : ∃ y_ : List Int, y_ = (([34] : List Int)) := ⟨_, rfl⟩
      replace H : (impl_ValueText.l0 kj14 y104 (a0_2.size : Int) 0 a0_0 a0_1 a0_2) = some r := yH H hy104
      have Ny104 := aM hy104
      clear hy104
      have H' := aM H
      clear H
      obtain ⟨hczx1, hczx2, hczx3, hfzx1, hfzx2, hfzx3⟩ := cZ3 BKz1.out
      go_wp2_with (first | ((with_reducible refine gate_dst (N := 33) rfl ?_); refine Kd.R_lit (Kd.int .u8) _ 5 ?hg (N := 33) ?hd (xs := ([34] : List Int)) (inner := [.int .u8 34]) (ok := fun _ => True) (okp := fun _ => True) ?hr ?hp (fun _ hk => hk) trivial (Below.refl _ _) (Nat.le_refl _) (by simp) ?_; (case hd => rfl); (case hg => rfl); (case hr => first | (go_simp; done) | (go_simp; rfl)); (case hp => exact (Reps.one (show Kd.M (Kd.int .u8) _ _ _ 34 [.int .u8 34] from rfl) (Reps.none _ _))); intro vx1 wx1 hox1 hb hg_ hnew_; clear hg_ hnew_; (first | rw [← Ny104.out] at hox1 | (simp only [Int.reduceToNat] at hox1; rw [← Ny104.out] at hox1)); have HOx1 := aM (Kd.R_lower hox1 (below_size (hX HB.out))); replace BKz1 := aB BKz1 hb; replace HB := aS HB hb; clear hb hox1; obtain ⟨hczx4, hczx5, hczx6, hfzx4, hfzx5, hfzx6⟩ := cZ3 BKz1.out))
      go_loopg [3, 37] kj14 (fun kq v3 v37 w' => ∃ (x3_2 : List Int) (x37_2 : Int), v37 = .int .i64 x37_2 ∧ Aside0 (impl_ValueText.l0 kq x3_2 (a0_2.size : Int) x37_2 a0_0 a0_1 a0_2 = some r) ∧ Aside0 (kq ≤ kj14) ∧ Aside0 (Kd.R (Kd.int .u8) 5 w' w.heap.size (fun _ => True) v3 x3_2) ∧ Aside0 (w'.heap[gbz1]? = some (.cells #[.int .i64 a0_0, .int .i64 a0_1, .string a0_2] 37 (0, 0))) ∧ Aside0 (Below w.heap.size w w'))
      case atStart => exact ⟨(y104), (0), rS, H', ⟨Nat.le_refl _⟩, ⟨(rX HOx1.out)⟩, ⟨(bX BKz1.out)⟩, ⟨(hX HB.out)⟩⟩
      case round =>
        clear H'
        try clear p2
        try clear c3
        try clear c4
        try clear c4b0
        try clear c4b1
        try clear c9
        try clear c9b0
        try clear c9b1
        try clear c23
        try clear c24
        try clear c24b0
        try clear c24b1
        try clear hczz1 hczz2 hczz3 hfzz1 hfzz2 hfzz3
        try clear hczz4 hczz5 hczz6 hfzz4 hfzz5 hfzz6
        try clear hczx1 hczx2 hczx3 hfzx1 hfzx2 hfzx3
        try clear hczx4 hczx5 hczx6 hfzx4 hfzx5 hfzx6
        obtain ⟨x3_2, x37_2, rfl, HA, HKw1, HO_w1, BKz1, HB⟩ := hrel
        cases gk with
        | zero => exact absurd HA.out (by simp [impl_ValueText.l0])
        | succ k2 =>
          have H := HA.out
          clear HA
          simp only [impl_ValueText.l0] at H
          by_cases c30 : x37_2 < (a0_2.size : Int)
          case neg =>
            rw [if_neg c30] at H
            have c30b0 := decide_eq_false c30
            clear c30
            obtain rfl := sI H
            have hcvv1 := own_string (P := Try.prog) Try.underlying22 Try.underlying5 Try.underlying9 (Kd.own_of_R HO_w1.out)
            go_wp2
            go_ret
            exact ⟨rE, (hX HB.out)⟩
          rw [if_pos c30] at H
          have c30b0 := decide_eq_true c30
          clear c30
          replace H := ifP H; obtain ⟨c31, H⟩ := H
          have c31b0 := decide_eq_true c31
          clear c31
          replace H := ifP H; obtain ⟨c32, H⟩ := H
          have c32b0 := decide_eq_true c32
          clear c32
          obtain ⟨ji34, hji34⟩ : ∃ j_ : Int, ((bt a0_2 x37_2) / 16) = j_ := ⟨_, rfl⟩
          replace H : (if 0 ≤ (ji34) then (if (ji34) < 16 then (if 0 ≤ (Go.bits .and .u8 (bt a0_2 x37_2) 15) then (if (Go.bits .and .u8 (bt a0_2 x37_2) 15) < 16 then ((some (([bt (⟨#[48, 49, 50, 51, 52, 53, 54, 55, 56, 57, 97, 98, 99, 100, 101, 102]⟩ : ByteArray) (ji34), bt (⟨#[48, 49, 50, 51, 52, 53, 54, 55, 56, 57, 97, 98, 99, 100, 101, 102]⟩ : ByteArray) (Go.bits .and .u8 (bt a0_2 x37_2) 15)] : List Int) : List Int)).bind fun y107 => (if x3_2.length + y107.length < 140737488355328 then (impl_ValueText.l0 k2 (x3_2 ++ y107) (a0_2.size : Int) (wrap64 (x37_2 + 1)) a0_0 a0_1 a0_2) else (none))) else (none)) else (none)) else (none)) else (none)) = some r := by first | (rw [hji34] at H; exact H) | (simp only [hji34] at H ⊢; exact H)
          replace H := ifP H; obtain ⟨c35, H⟩ := H
          have c35b0 := decide_eq_true c35
          clear c35
          replace H := ifP H; obtain ⟨c36, H⟩ := H
          have c36b0 := decide_eq_true c36
          clear c36
          replace H := ifP H; obtain ⟨c39, H⟩ := H
          have c39b0 := decide_eq_true c39
          clear c39
          replace H := ifP H; obtain ⟨c40, H⟩ := H
          have c40b0 := decide_eq_true c40
          clear c40
          replace H := sE H; obtain ⟨y107, Ny107, H⟩ := H
          replace H := ifP H; obtain ⟨c42, H⟩ := H
          have LMc42 := aM c42
          clear c42
          obtain ⟨y110, hy110⟩ : ∃ y_ : List Int, y_ = (x3_2 ++ y107) := ⟨_, rfl⟩
          replace H : (impl_ValueText.l0 k2 y110 (a0_2.size : Int) (wrap64 (x37_2 + 1)) a0_0 a0_1 a0_2) = some r := yH H hy110
          have Ny110 := aM hy110
          clear hy110
          have H' := aM H
          clear H
          try go_wp2
          replace HO_w1 := aM (Kd.R_drew HO_w1.out)
          replace BKz1 := aM (blk_drew BKz1.out)
          replace HB := aM (below_drew1 HB.out)
          have pv1 : 0 ≤ (x37_2 : Int) := odA
          have qv1 : x37_2 < (a0_2.size : Int) := odA
          have hxv1 := bt_at a0_2 x37_2
          replace pv1 := eq_true pv1
          replace qv1 := eq_true qv1
          have pv2 : 0 ≤ ((ji34) : Int) := odA
          have qv2 : (ji34) < (16 : Int) := odA
          have hxv2 := bt_at (⟨#[48, 49, 50, 51, 52, 53, 54, 55, 56, 57, 97, 98, 99, 100, 101, 102]⟩ : ByteArray) (ji34)
          replace pv2 := eq_true pv2
          replace qv2 := eq_true qv2
          have pv3 : 0 ≤ (x37_2 : Int) := odA
          have qv3 : x37_2 < (a0_2.size : Int) := odA
          have hxv3 := bt_at a0_2 x37_2
          replace pv3 := eq_true pv3
          replace qv3 := eq_true qv3
          have pv4 : 0 ≤ ((Go.bits .and .u8 (bt a0_2 x37_2) 15) : Int) := odA
          have qv4 : (Go.bits .and .u8 (bt a0_2 x37_2) 15) < (16 : Int) := odA
          have hxv4 := bt_at (⟨#[48, 49, 50, 51, 52, 53, 54, 55, 56, 57, 97, 98, 99, 100, 101, 102]⟩ : ByteArray) (Go.bits .and .u8 (bt a0_2 x37_2) 15)
          replace pv4 := eq_true pv4
          replace qv4 := eq_true qv4
          refine start_ (n := 16) (S := fun w' => w'.cell? ⟨gbz1, 0, none⟩ = some (.int .i64 a0_0) ∧ w'.cell? ⟨gbz1, 1, none⟩ = some (.int .i64 a0_1) ∧ w'.cell? ⟨gbz1, 2, none⟩ = some (.string a0_2)) (ds := []) (bm 16 0) (by kernel_rfl) rfl (by kernel_rfl) ⟨cK BKz1.out 0, cK BKz1.out 1, cK BKz1.out 2⟩ (fun hHeld => ?_); refine with_tabW impl_ValueText.tab15 impl_ValueText.bits15 (fun HT_ HW_ => ?_)
          generalize wr.drew = wv1 at HO_w1 BKz1 HB hHeld ⊢
          refine pZ 0 40 (bm 16 1) HT_.out ?_
          refine pZ 1 41 (bm 16 3) HT_.out ?_
          refine pZ 3 43 (bm 16 11) HT_.out ?_
          refine pZ 7 47 (bm 16 139) HT_.out ?_
          refine pZ 9 49 (bm 16 651) HT_.out ?_
          refine tZ 2 42 (bm 16 655) HT_.out HW_.out hHeld ?_
          refine tZ 4 44 (bm 16 671) HT_.out HW_.out hHeld ?_
          refine pZ 5 45 (bm 16 703) HT_.out ?_
          refine tZ 6 46 (bm 16 767) HT_.out HW_.out hHeld ?_
          refine tZ 8 48 (bm 16 1023) HT_.out HW_.out hHeld ?_
          refine tZ 10 50 (bm 16 2047) HT_.out HW_.out hHeld ?_
          refine pZ 11 51 (bm 16 4095) HT_.out ?_
          refine tZ 12 52 (bm 16 8191) HT_.out HW_.out hHeld ?_
          refine oZ 13 (some 53) (bm 16 16383) HT_.out (fun K hK => ?_)
          refine Kd.R_lit_step (Kd.int .u8) _ 5 ?hg (N := 53) ?hd (xs := ([bt (⟨#[48, 49, 50, 51, 52, 53, 54, 55, 56, 57, 97, 98, 99, 100, 101, 102]⟩ : ByteArray) (ji34), bt (⟨#[48, 49, 50, 51, 52, 53, 54, 55, 56, 57, 97, 98, 99, 100, 101, 102]⟩ : ByteArray) (Go.bits .and .u8 (bt a0_2 x37_2) 15)] : List Int)) (inner := [.int .u8 (bt (⟨#[48, 49, 50, 51, 52, 53, 54, 55, 56, 57, 97, 98, 99, 100, 101, 102]⟩ : ByteArray) (ji34)), .int .u8 (bt (⟨#[48, 49, 50, 51, 52, 53, 54, 55, 56, 57, 97, 98, 99, 100, 101, 102]⟩ : ByteArray) (Go.bits .and .u8 (bt a0_2 x37_2) 15))]) (ok := fun _ => True) (okp := fun _ => True) ?hr ?hp (fun _ hk => hk) trivial (Below.refl _ _) (Nat.le_refl _) (by simp) ?_; (case hd => rfl); (case hg => rfl); (case hr => first | (go_simp; done) | (go_simp; rfl)); (case hp => exact (Reps.one (show Kd.M (Kd.int .u8) _ _ _ (bt (⟨#[48, 49, 50, 51, 52, 53, 54, 55, 56, 57, 97, 98, 99, 100, 101, 102]⟩ : ByteArray) (ji34)) [.int .u8 (bt (⟨#[48, 49, 50, 51, 52, 53, 54, 55, 56, 57, 97, 98, 99, 100, 101, 102]⟩ : ByteArray) (ji34))] from rfl) (Reps.one (show Kd.M (Kd.int .u8) _ _ _ (bt (⟨#[48, 49, 50, 51, 52, 53, 54, 55, 56, 57, 97, 98, 99, 100, 101, 102]⟩ : ByteArray) (Go.bits .and .u8 (bt a0_2 x37_2) 15)) [.int .u8 (bt (⟨#[48, 49, 50, 51, 52, 53, 54, 55, 56, 57, 97, 98, 99, 100, 101, 102]⟩ : ByteArray) (Go.bits .and .u8 (bt a0_2 x37_2) 15))] from rfl) (Reps.none _ _))))
          intro vv1 wv2 hov1 hb hg_ hnew_
          clear hg_ hnew_
          (first | rw [← Ny107.out] at hov1 | (simp only [Int.reduceToNat] at hov1; rw [← Ny107.out] at hov1))
          have HOv1 := aM (Kd.R_lower (Kd.R_new' hov1 (Kd.R_lt (rX HO_w1.out))) (below_size (hX HB.out)))
          replace HO_w1 := aM (Kd.R_elder' (rX HO_w1.out) (Kd.R_base hov1) hb)
          replace BKz1 := aB BKz1 hb
          replace HB := aS HB hb
          clear hb hov1
          obtain ⟨Aov1, cov1, eov1⟩ := Kd.R_slice HOv1.out
          (first | subst eov1 | (injection eov1 with f1_ f2_ f3_; have fv1 := f1_.symm; have fv2 := f3_.symm; clear f1_ f2_ f3_; subst fv1; subst fv2))
          refine hK.out _ _ ⟨cK BKz1.out 0, cK BKz1.out 1, cK BKz1.out 2⟩ (fun hHeld => ?_)
          clear hK K
          refine nZ 53 ?_
          refine oZ 14 (some 54) (bm 16 32767) HT_.out (fun K hK => ?_)
          refine Kd.R_append_rows_step (Kd.int .u8) (w0 := w) w.heap.size (by rfl) (.tmp 40) (.tmp 53) 22 5 (.int .u8 0) 1 rfl Try.underlying22 info5 rfl (by decide) (by omega) u3 x3_2 y107 _ _ _ (fun k_ => some k_ ≠ (.slice Aov1 y107.length cov1 : Value).ownBlock) (fun _ => False) rfl rfl ?aO ?aR (fun _ _ h => h) (fun _ h => h.elim) ?aF ?aB ?aS ?aL ?_
          (case aR => repeat (first | exact (Kd.R_reads' HOv1.out).2.2 | (with_reducible refine Kd.C_alloc ?_ _) | (with_reducible refine Kd.C_drewN ?_ _) | (with_reducible refine Kd.C_drew ?_)))
          (case aB => exact (hX HB.out))
          (case aF => exact (fun k_ hk => Kd.fresh' (Kd.R_lt (rX HOv1.out)) k_ hk))
          (case aO => exact (rT (h := by exact Kd.R_mono HO_w1.out (fun _ hk => hk.2))))
          (case aS => exact (below_size (hX HB.out)))
          (case aL => have := LMc42.out; omega)
          intro vv2 wv3 ho hb hg hat
          rw [← Ny110.out] at ho
          have HOv2 := aM (ho)
          replace BKz1 := aM (blk_grown (g := gbz1) (o := .cells #[.int .i64 a0_0, .int .i64 a0_1, .string a0_2] 37 (0, 0)) (bX BKz1.out) hg (Kd.R_ne HO_w1.out BKz1.out (by decide)))
          replace HOv1 := aM (Kd.R_after (ok := (fun _ => True)) (rX HOv1.out) hg hat)
          replace HB := aM (hb)
          clear HO_w1
          clear ho hb hg hat
          refine hK.out _ _ ⟨cK BKz1.out 0, cK BKz1.out 1, cK BKz1.out 2⟩ (fun hHeld => ?_)
          clear hK K
          refine nZ 54 ?_
          refine pZ 15 3 (bm 16 65535) HT_.out ?_
          refine done_ (done_of HT_.out (by kernel_rfl)) ?_
          try go_wp2
          go_roundg k2
          case measure => have := HJy1.out; have := HKw1.out; omega
          case rel => exact ⟨(y110), (wrap64 (x37_2 + 1)), rS, H', ⟨by have := HJy1.out; have := HKw1.out; omega⟩, ⟨(rT (h := by exact Kd.R_mono HOv2.out (fun _ hk => trivial)))⟩, ⟨(bX BKz1.out)⟩, ⟨(hX HB.out)⟩⟩
end Go.Proofs.Ytcedikpkbgofhaa.P2
namespace Go.Proofs
open Go.Shelf
def Try.lays156_ren : Go.Shelf.Ren := ⟨fun | 156 => 78 | 165 => 91 | 166 => 92 | 169 => 93 | 240 => 96 | 241 => 97 | 276 => 99 | 277 => 100 | n => n, fun | 31 => 73 | 9 => 9 | 3 => 3 | 4 => 4 | 0 => 0 | 20 => 20 | 72 => 118 | 76 => 122 | 70 => 116 | 37 => 22 | 75 => 121 | 127 => 126 | 164 => 127 | 5 => 5 | 80 => 124 | n => n, fun | n => n⟩
theorem Try.lays156 : Go.Proofs.Lays.n156 Try.prog Try.lays156_ren := {
  mixed := by kernel_rfl
  f156 := Try.func78.trans (congrArg some (by kernel_rfl))
  f165 := Try.func91.trans (congrArg some (by kernel_rfl))
  f166 := Try.func92.trans (congrArg some (by kernel_rfl))
  f169 := Try.func93.trans (congrArg some (by kernel_rfl))
  f240 := Try.func96.trans (congrArg some (by kernel_rfl))
  f241 := Try.func97.trans (congrArg some (by kernel_rfl))
  f276 := Try.func99.trans (congrArg some (by kernel_rfl))
  f277 := Try.func100.trans (congrArg some (by kernel_rfl))
  t0 := Try.underlying0
  a0 := Try.isAgg0
  z0 := Try.sizeOf0
  v0 := Try.zeroValue0
  t3 := Try.underlying3
  a3 := Try.isAgg3
  z3 := Try.sizeOf3
  v3 := Try.zeroValue3
  t4 := Try.underlying4
  a4 := Try.isAgg4
  z4 := Try.sizeOf4
  v4 := Try.zeroValue4
  t9 := Try.underlying9
  a9 := Try.isAgg9
  z9 := Try.sizeOf9
  v9 := Try.zeroValue9
  t20 := Try.underlying20
  a20 := Try.isAgg20
  z20 := Try.sizeOf20
  v20 := Try.zeroValue20
  t31 := Try.underlying73
  a31 := Try.isAgg73
  z31 := Try.sizeOf73
  v31 := Try.zeroValue73
  t37 := Try.underlying22
  a37 := Try.isAgg22
  z37 := Try.sizeOf22
  v37 := Try.zeroValue22
  t70 := Try.underlying116
  a70 := Try.isAgg116
  z70 := Try.sizeOf116
  v70 := Try.zeroValue116
  t72 := Try.underlying118
  a72 := Try.isAgg118
  z72 := Try.sizeOf118
  v72 := Try.zeroValue118
  t75 := Try.underlying121
  a75 := Try.isAgg121
  z75 := Try.sizeOf121
  v75 := Try.zeroValue121
  t76 := Try.underlying122
  a76 := Try.isAgg122
  z76 := Try.sizeOf122
  v76 := Try.zeroValue122
  t127 := Try.underlying126
  a127 := Try.isAgg126
  z127 := Try.sizeOf126
  v127 := Try.zeroValue126
  t164 := Try.underlying127
  a164 := Try.isAgg127
  z164 := Try.sizeOf127
  v164 := Try.zeroValue127 }
theorem Try.Builder_Extra_156 : Builder.Extra Try.prog Try.lays156_ren := {
  sizeBuilder := by kernel_rfl
  liesBuilder := by kernel_rfl
  t5 := Try.underlying5
  a5 := Try.isAgg5
  z5 := Try.sizeOf5
  v5 := Try.zeroValue5
  infoByte := by kernel_rfl
  cellsByte := by kernel_rfl
  sizeByte := by kernel_rfl
  neB5 := by decide }
open Go.RowKit in
theorem Try.strings_Join_none (a : Option Addr) (c : Nat) (sep : ByteArray) (w : World) :
    Calls Try.prog 78 #[.slice a 0 c, .string sep] w fun e w' => e = .returned (.string ⟨#[]⟩) ∧ w' = w := Any.strings_Join_none Try.lays156 Try.Builder_Extra_156 a c sep w
open Go.RowKit in
theorem Try.strings_Join (bk o c : Nat) (xs : List ByteArray) (sep : ByteArray) (w : World) (hcells : ∀ (j : Nat) x, xs[j]? = some x → w.cell? ⟨bk, o + j, none⟩ = some (.string x)) (hbk : bk < w.heap.size) (hN : xs.length ≤ 140737488355328) (hcap : xs.length ≤ c) (hlen : (Lib.join (xs.map (·.data.toList)) sep.data.toList).length ≤ 140737488355328) :
    Calls Try.prog 78 #[.slice (some ⟨bk, o, none⟩) xs.length c, .string sep] w fun e w' => e = .returned (.string ⟨(Lib.join (xs.map (·.data.toList)) sep.data.toList).toArray⟩) ∧ Below w.heap.size w w' := Any.strings_Join Try.lays156 Try.Builder_Extra_156 bk o c xs sep w hcells hbk hN hcap hlen
def Try.lays115_ren : Go.Shelf.Ren := ⟨fun | 115 => 75 | n => n, fun | 37 => 22 | 4 => 4 | 9 => 9 | 5 => 5 | n => n, fun | n => n⟩
theorem Try.lays115 : Go.Proofs.Lays.n115 Try.prog Try.lays115_ren := {
  mixed := by kernel_rfl
  f115 := Try.func75.trans (congrArg some (by kernel_rfl))
  t4 := Try.underlying4
  a4 := Try.isAgg4
  z4 := Try.sizeOf4
  v4 := Try.zeroValue4
  t9 := Try.underlying9
  a9 := Try.isAgg9
  z9 := Try.sizeOf9
  v9 := Try.zeroValue9
  t37 := Try.underlying22
  a37 := Try.isAgg22
  z37 := Try.sizeOf22
  v37 := Try.zeroValue22 }
theorem Try.bytes_Equal (v1 v2 : Value) (xs ys : List Int) (w : World) (h1 : (convert 22 9 v1).run Try.prog w = .ok (.string (strOfNums xs)) w) (h2 : (convert 22 9 v2).run Try.prog w = .ok (.string (strOfNums ys)) w) :
    Calls Try.prog 75 #[v1, v2] w fun e w' => e = .returned (.bool (Lib.bytesOf xs == Lib.bytesOf ys)) ∧ w' = w := Any.bytes_Equal Try.lays115 v1 v2 xs ys w h1 h2
end Go.Proofs
namespace Go.Proofs.YtcedikpkbgofhaaZ
open Go.RowKit Go.Proofs.YtcedikpkbgofhaaW.PrintWords Go.Proofs.YtcedikpkbgofhaaW.PrintLast
theorem C_plain {α : Type} {enc : α → Value} {h1 : ∀ x, (enc x).oneCell' = true} {w : World} {A : Option Addr} {xs : List α} (h : (Kd.scalar enc h1).C w A xs.length xs) (hp : 0 < xs.length) :
    ∃ b o, A = some ⟨b, o, none⟩ ∧ b < w.heap.size ∧ ∀ (j : Nat) x, xs[j]? = some x → w.cell? ⟨b, o + j, none⟩ = some (enc x) := by
  obtain ⟨ad, rfl, hc⟩ := h.2.2 hp
  have hcell : ∀ (j : Nat) x, xs[j]? = some x → w.cell? (ad.add j) = some (enc x) := by
    intro j x hj
    obtain ⟨c, _, hK, hu⟩ := hc j x hj
    have hK' : c = [enc x] := hK
    subst hK'
    have := hu 0 (enc x) rfl
    have h1 : (Kd.scalar enc h1).sz = 1 := rfl
    rw [h1, Nat.mul_one, Nat.add_zero] at this
    exact this
  have h0 : w.cell? ad = some (enc xs[0]) := by
    have := hcell 0 xs[0] (List.getElem?_eq_getElem hp)
    simpa [Addr.add] using this
  have hs : ad.spot = none := by
    rcases hsp : ad.spot with _ | s
    · rfl
    · exfalso
      unfold World.cell? at h0
      rw [hsp] at h0
      split at h0 <;> simp at h0
  obtain ⟨b, o, s⟩ := ad
  dsimp only at hs
  subst hs
  refine ⟨b, o, rfl, World.block_lt_of_cell? w _ h0, fun j x hj => ?_⟩
  have := hcell j x hj
  rw [← this]
  congr 1
  unfold Addr.add
  by_cases hj0 : j = 0
  · subst hj0; rfl
  · simp [hj0]
end Go.Proofs.YtcedikpkbgofhaaZ
namespace Go.Proofs.Ytcedikpkbgofhaa.P2
open Go.Proofs.YtcedikpkbgofhaaZ Go.RowKit Go.Proofs.YtcedikpkbgofhaaW.PrintWords Go.Proofs.YtcedikpkbgofhaaW.PrintLast Go.Proofs.YtcedikpkbgofhaaW.PrintMore
attribute [local go_sem] max2_int min2_int max_two min_two max_three min_three max_four min_four   -- for this text's walks alone
def strings_Join.f (l0 : List ByteArray) (a1 : ByteArray) : Option (ByteArray) := if (Lib.join (l0.map (·.data.toList)) a1.data.toList).length ≤ 140737488355328 ∧ l0.length ≤ 140737488355328 then some ⟨(Lib.join (l0.map (·.data.toList)) a1.data.toList).toArray⟩ else none
theorem strings_Join.calls (A0 : Option Addr) (c0 : Nat) (l0 : List ByteArray) (a1 : ByteArray) (r : ByteArray) (w : World) (hr0 : Kd.C Kd.string w A0 l0.length l0) (hc0 : l0.length ≤ c0) (h : strings_Join.f l0 a1 = some r) :
    Calls Try.prog 78 #[.slice A0 l0.length c0, .string a1] w fun e w' => e = .returned (.string r) ∧ Below w.heap.size w w' := by
  unfold strings_Join.f at h
  split at h
  · rename_i hlen
    obtain rfl := Option.some.inj h
    cases l0 with
    | nil => exact (Go.Proofs.Try.strings_Join_none A0 c0 a1 w).mono fun e w' ⟨he, hw⟩ => ⟨he, hw ▸ Below.refl _ _⟩
    | cons x xs =>
      obtain ⟨b, o, rfl, hb, hcell⟩ := Go.Proofs.YtcedikpkbgofhaaZ.C_plain hr0 (by simp)
      exact (Go.Proofs.Try.strings_Join b o c0 (x :: xs) a1 w hcell hb hlen.2 hc0 hlen.1).mono fun e w' ⟨he, hb⟩ => ⟨he, hb⟩
  simp at h
def impl_TupleText.l0 : Nat → List ByteArray → List (S37) → Int → Int → Option (ByteArray)
  | 0, _, _, _, _ => none
  | k + 1, x3, x7, x8, x9 => if x9 < x8 then (if 0 ≤ x9 then (if x9 < (x7.length : Int) then ((impl_ValueText.f k ((rd_T37 x7 x9).f0) ((rd_T37 x7 x9).f1) ((rd_T37 x7 x9).f2)).bind fun t106 => (if x3.length < 8796093022208 then (impl_TupleText.l0 k (x3 ++ [t106]) x7 x8 (wrap64 (x9 + 1))) else (none))) else (none)) else (none)) else ((strings_Join.f x3 (⟨#[44]⟩ : ByteArray)).bind fun t110 => (some t110))
def impl_TupleText.f (k : Nat) (l0 : List (S37)) : Option (ByteArray) := impl_TupleText.l0 k (([] : List ByteArray)) l0 (l0.length : Int) 0
set_option maxHeartbeats 8000000 in
set_option maxRecDepth 100000 in
theorem impl_TupleText.calls (k : Nat) (A0 : Option Addr) (c0 : Nat) (l0 : List (S37)) (r : ByteArray) (w : World) (hr0 : Kd.C k37 w A0 l0.length l0) (hc0 : l0.length ≤ c0) (h : impl_TupleText.f k l0 = some r) :
    Calls Try.prog 45 #[.slice A0 l0.length c0] w fun e w' => e = .returned (.string r) ∧ Below w.heap.size w w' := by
  have hu37 := Try.underlying37
  have HR0 := aM hr0
  have HC0 := aM hc0
  clear hr0 hc0
  have HB := aM (Below.refl w.heap.size w)
  have H := h
  unfold impl_TupleText.f at H
  clear h
  obtain ⟨y101, hy101⟩ : ∃ y_ : List ByteArray, y_ = (([] : List ByteArray)) := ⟨_, rfl⟩
  replace H : (impl_TupleText.l0 k y101 l0 (l0.length : Int) 0) = some r := yH H hy101
  have Ny101 := aM hy101
  clear hy101
  have H' := aM H
  clear H
  go_enter Try.func45, Try.ntmps45
  go_wp2_with (first | ((with_reducible refine gate_dst (N := 6) rfl ?_); refine Kd.R_lit Kd.string _ 9 ?hg (N := 6) ?hd (xs := ([] : List ByteArray)) (inner := []) (ok := fun _ => True) (okp := fun _ => True) ?hr ?hp (fun _ hk => hk) trivial (Below.refl _ _) (Nat.le_refl _) (by simp) ?_; (case hd => rfl); (case hg => rfl); (case hr => first | (go_simp; done) | (go_simp; rfl)); (case hp => exact (Reps.none _ _)); intro vz1 wz1 hoz1 hb hg_ hnew_; clear hg_ hnew_; (first | rw [← Ny101.out] at hoz1 | (simp only [Int.reduceToNat] at hoz1; rw [← Ny101.out] at hoz1)); have HOz1 := aM (Kd.R_lower hoz1 (below_size (hX HB.out))); replace HB := aS HB hb; clear hb hoz1))
  go_loopg [3, 9] k (fun kq v3 v9 w' => ∃ (x3_1 : List ByteArray) (x9_1 : Int), v9 = .int .i64 x9_1 ∧ Aside0 (impl_TupleText.l0 kq x3_1 l0 (l0.length : Int) x9_1 = some r) ∧ Aside0 (kq ≤ k) ∧ Aside0 (Kd.R Kd.string 9 w' w.heap.size (fun _ => True) v3 x3_1) ∧ Aside0 (Below w.heap.size w w'))
  case atStart => exact ⟨(y101), (0), rS, H', ⟨Nat.le_refl _⟩, ⟨(rX HOz1.out)⟩, ⟨(hX HB.out)⟩⟩
  case round =>
    clear H'
    try clear p2
    obtain ⟨x3_1, x9_1, rfl, HA, HKy1, HO_y1, HB⟩ := hrel
    cases gk with
    | zero => exact absurd HA.out (by simp [impl_TupleText.l0])
    | succ k1 =>
      have H := HA.out
      clear HA
      simp only [impl_TupleText.l0] at H
      by_cases c4 : x9_1 < (l0.length : Int)
      case neg =>
        rw [if_neg c4] at H
        have c4b0 := decide_eq_false c4
        clear c4
        replace H := bE H; obtain ⟨t110, A13, H⟩ := H
        obtain rfl := sI H
        obtain ⟨Aox1, cox1, eox1⟩ := Kd.R_slice HO_y1.out
        subst eox1
        go_wp2_with (first | (refine goesM 78 20 Try.func78 #[.slice Aox1 x3_1.length cox1, .string (⟨#[44]⟩ : ByteArray)] ?_; refine (strings_Join.calls _ _ _ _ _ _ (cX (Kd.R_reads' HO_y1.out).2.2) ((Kd.R_reads' HO_y1.out).2.1) A13.out).mono ?_; rintro e wx1 ⟨rfl, hb⟩; refine ⟨_, rfl, ?_⟩; replace HO_y1 := aQ HO_y1 hb; replace HB := aS HB hb; clear hb))
        go_ret
        exact ⟨rE, (hX HB.out)⟩
      rw [if_pos c4] at H
      have c4b0 := decide_eq_true c4
      clear c4
      replace H := ifP H; obtain ⟨c5, H⟩ := H
      have c5b0 := decide_eq_true c5
      clear c5
      replace H := ifP H; obtain ⟨c6, H⟩ := H
      have c6b0 := decide_eq_true c6
      clear c6
      replace H := bE H; obtain ⟨t106, A7, H⟩ := H
      replace H := ifP H; obtain ⟨c8, H⟩ := H
      have LMc8 := aM c8
      clear c8
      obtain ⟨y107, hy107⟩ : ∃ y_ : List ByteArray, y_ = (x3_1 ++ [t106]) := ⟨_, rfl⟩
      replace H : (impl_TupleText.l0 k1 y107 l0 (l0.length : Int) (wrap64 (x9_1 + 1))) = some r := yH H hy107
      have Ny107 := aM hy107
      clear hy107
      have H' := aM H
      clear H
      have px1 : 0 ≤ (x9_1 : Int) := odA
      have qx1 : x9_1 < (l0.length : Int) := odA
      obtain ⟨adx1, ex1, hxx1, hxx2, hxx3⟩ := at_T37b HR0.out HB.out x9_1 px1 qx1
      cases ex1
      replace px1 := eq_true px1
      replace qx1 := eq_true qx1
      go_wp2_with (first | ((with_reducible refine gate_dst (N := 5) rfl ?_); refine boxE 5 #[.int .i64 0, .int .i64 0, .string (⟨#[]⟩ : ByteArray)] 37 ?_; intro gbx1 hg wx1 hbox hb; have BKx1 := aM (hbox); have GWx1 := aG hg HB; have GEx1 := aG hg HB; replace HO_y1 := aQ HO_y1 hb; replace HB := aS HB hb; clear hb hbox hg; obtain ⟨hczx1, hczx2, hczx3, hfzx1, hfzx2, hfzx3⟩ := cZ3 BKx1.out) | ((with_reducible refine gate_callee (f := 32) rfl ?_); refine goesM 32 15 Try.func32 #[.agg #[.int .i64 ((rd_T37 l0 x9_1).f0), .int .i64 ((rd_T37 l0 x9_1).f1), .string ((rd_T37 l0 x9_1).f2)]] ?_; refine (impl_ValueText.calls _ _ _ _ _ _ A7.out).mono ?_; rintro e wx2 ⟨rfl, hb⟩; refine ⟨_, rfl, ?_⟩; replace HO_y1 := aM (Kd.R_below (rF HO_y1.out BKx1.out) hb); replace BKx1 := aM (blk_below (g := gbx1) (o := .cells #[.int .i64 ((rd_T37 l0 x9_1).f0), .int .i64 ((rd_T37 l0 x9_1).f1), .string ((rd_T37 l0 x9_1).f2)] 37 (0, 0)) (bP BKx1.out) hb); replace HB := aS HB hb; clear hb) | ((with_reducible refine gate_builtin (b := .append) (xs := #[.tmp 13, .tmp 16]) rfl ?_); at_builtin; refine Kd.R_append Kd.string (w0 := w) w.heap.size rfl (.tmp 13) (.tmp 16) 73 9 (.string ⟨#[]⟩) 16 rfl Try.underlying73 info9 rfl (by decide) (by omega) u3 x3_1 t106 [.string t106] (fun _ => True) (fun _ => False) rfl rfl ?aP (fun _ hk => hk.elim) ?aF ?aO ?aB ?aS ?aL ?_; (case aP => exact rfl); (case aB => exact (hX HB.out)); (case aF => exact (fun _ _ => trivial)); (case aO => exact (rX HO_y1.out)); (case aS => exact (below_size (hX HB.out))); (case aL => have := LMc8.out; omega); intro vx1 wx3 ho hb hg hat; rw [← Ny107.out] at ho; have HOx1 := aM (ho); replace BKx1 := aM (blk_grown (g := gbx1) (o := .cells #[.int .i64 ((rd_T37 l0 x9_1).f0), .int .i64 ((rd_T37 l0 x9_1).f1), .string ((rd_T37 l0 x9_1).f2)] 37 (0, 0)) (bX BKx1.out) hg (Kd.R_ne HO_y1.out BKx1.out (by decide))); replace HB := aM (hb); clear HO_y1; clear ho hb hg hat))
      go_roundg k1
      case measure => have := HKy1.out; omega
      case rel => exact ⟨(y107), (wrap64 (x9_1 + 1)), rS, H', ⟨by have := HKy1.out; omega⟩, ⟨(rX HOx1.out)⟩, ⟨(hX HB.out)⟩⟩
def spec_Digits.l0 : Nat → Int → Bool → ByteArray → Option (ByteArray)
  | 0, _, _, _ => none
  | k + 1, x0, x3, x4 => if x0 = 0 then (if x3 = true then (if 1 + x4.size ≤ 9223372036854775807 then (some ((⟨#[45]⟩ : ByteArray) ++ x4)) else (none)) else (some x4)) else (if (Int.tmod x0 10) < 0 then ((some (([(wrap64 (48 + (wrap64 (-(Int.tmod x0 10))))) % 256] : List Int) : List Int)).bind fun y101 => (if (strOfNums y101).size + x4.size ≤ 9223372036854775807 then (spec_Digits.l0 k (wrap64 (Int.tdiv x0 10)) x3 ((strOfNums y101) ++ x4)) else (none))) else ((some (([(wrap64 (48 + (Int.tmod x0 10))) % 256] : List Int) : List Int)).bind fun y104 => (if (strOfNums y104).size + x4.size ≤ 9223372036854775807 then (spec_Digits.l0 k (wrap64 (Int.tdiv x0 10)) x3 ((strOfNums y104) ++ x4)) else (none))))
def spec_Digits.f (k : Nat) (a0 : Int) : Option (ByteArray) := if a0 = 0 then (some (⟨#[48]⟩ : ByteArray)) else (spec_Digits.l0 k a0 (decide (a0 < 0)) (⟨#[]⟩ : ByteArray))
set_option maxHeartbeats 8000000 in
set_option maxRecDepth 100000 in
theorem spec_Digits.calls (k : Nat) (a0 : Int) (r : ByteArray) (w : World) (h : spec_Digits.f k a0 = some r) :
    Calls Try.prog 61 #[.int .i64 a0] w fun e w' => e = .returned (.string r) ∧ Below w.heap.size w w' := by
  have HB := aM (Below.refl w.heap.size w)
  have H := h
  unfold spec_Digits.f at H
  clear h
  go_enter Try.func61, Try.ntmps61
  by_cases c2 : a0 = 0
  · rw [if_pos c2] at H
    obtain ⟨c2b0, c2b1⟩ := eqT c2
    clear c2
    obtain rfl := sI H
    go_wp2
    go_ret
    exact ⟨rE, (hX HB.out)⟩
  rw [if_neg c2] at H
  obtain ⟨c2b0, c2b1⟩ := eqF c2
  have H' := aM H
  clear H
  go_wp2
  go_loopg [0, 4] k (fun kq v0 v4 w' => ∃ (x0_1 : Int) (x4_1 : ByteArray), v0 = .int .i64 x0_1 ∧ v4 = .string x4_1 ∧ Aside0 (spec_Digits.l0 kq x0_1 (decide (a0 < 0)) x4_1 = some r) ∧ Aside0 (kq ≤ k) ∧ Aside0 (Below w.heap.size w w'))
  case atStart => exact ⟨(a0), ((⟨#[]⟩ : ByteArray)), rS, rS, H', ⟨Nat.le_refl _⟩, ⟨(hX HB.out)⟩⟩
  case round =>
    clear H'
    try clear c2
    try clear c2b0
    try clear c2b1
    try clear p2
    obtain ⟨x0_1, x4_1, rfl, rfl, HA, HKy1, HB⟩ := hrel
    cases gk with
    | zero => exact absurd HA.out (by simp [spec_Digits.l0])
    | succ k1 =>
      have H := HA.out
      clear HA
      simp only [spec_Digits.l0] at H
      by_cases c3 : x0_1 = 0
      · rw [if_pos c3] at H
        obtain ⟨c3b0, c3b1⟩ := eqT c3
        clear c3
        by_cases c4 : (decide (a0 < 0)) = true
        case neg =>
          rw [if_neg c4] at H
          have c4b0 : (decide (a0 < 0)) = false := by simpa using c4
          (try (have c4b1 : ¬ (a0 < 0) := by simpa using c4))
          clear c4
          obtain rfl := sI H
          go_wp2
          go_ret
          exact ⟨rE, (hX HB.out)⟩
        rw [if_pos c4] at H
        have c4b0 : (decide (a0 < 0)) = true := c4
        (try (have c4b1 : (a0 < 0) := by simpa using c4))
        clear c4
        replace H := ifP H; obtain ⟨c5, H⟩ := H
        have c5b0 := eq_true c5
        have c5b1 := decide_eq_true c5
        try have c5b2 : (9223372036854775807 < 1 + x4_1.size) = False := eq_false (Nat.not_lt.2 c5)
        obtain rfl := sI H
        go_wp2
        go_ret
        exact ⟨rE, (hX HB.out)⟩
      rw [if_neg c3] at H
      obtain ⟨c3b0, c3b1⟩ := eqF c3
      by_cases c6 : (Int.tmod x0_1 10) < 0
      case neg =>
        rw [if_neg c6] at H
        have c6b0 := decide_eq_false c6
        clear c6
        obtain ⟨y104, hy104⟩ : ∃ y_ : List Int, y_ = (([(wrap64 (48 + (Int.tmod x0_1 10))) % 256] : List Int)) := ⟨_, rfl⟩
        replace H : (if (strOfNums y104).size + x4_1.size ≤ 9223372036854775807 then (spec_Digits.l0 k1 (wrap64 (Int.tdiv x0_1 10)) (decide (a0 < 0)) ((strOfNums y104) ++ x4_1)) else (none)) = some r := yH H hy104
        have Ny104 := aM hy104
        clear hy104
        replace H := ifP H; obtain ⟨c11, H⟩ := H
        have c11b0 := eq_true c11
        have c11b1 := decide_eq_true c11
        try have c11b2 : (9223372036854775807 < (strOfNums y104).size + x4_1.size) = False := eq_false (Nat.not_lt.2 c11)
        have H' := aM H
        clear H
        go_wp2_with (first | ((with_reducible refine gate_dst (N := 21) rfl ?_); refine Kd.R_lit (Kd.int .u8) _ 5 ?hg (N := 21) ?hd (xs := ([(wrap64 (48 + (Int.tmod x0_1 10))) % 256] : List Int)) (inner := [.int .u8 ((wrap64 (48 + (Int.tmod x0_1 10))) % 256)]) (ok := fun _ => True) (okp := fun _ => True) ?hr ?hp (fun _ hk => hk) trivial (Below.refl _ _) (Nat.le_refl _) (by simp) ?_; (case hd => rfl); (case hg => rfl); (case hr => first | (go_simp; done) | (go_simp; rfl)); (case hp => exact (Reps.one (show Kd.M (Kd.int .u8) _ _ _ ((wrap64 (48 + (Int.tmod x0_1 10))) % 256) [.int .u8 ((wrap64 (48 + (Int.tmod x0_1 10))) % 256)] from rfl) (Reps.none _ _))); intro vx1 wx1 hox1 hb hg_ hnew_; clear hg_ hnew_; (first | rw [← Ny104.out] at hox1 | (simp only [Int.reduceToNat] at hox1; rw [← Ny104.out] at hox1)); have HOx1 := aM (Kd.R_lower hox1 (below_size (hX HB.out))); replace HB := aS HB hb; clear hb hox1; have hcvx1 := own_string (P := Try.prog) Try.underlying22 Try.underlying5 Try.underlying9 (Kd.own_of_R HOx1.out)))
        go_roundg k1
        case measure => have := HKy1.out; omega
        case rel => exact ⟨(wrap64 (Int.tdiv x0_1 10)), ((strOfNums y104) ++ x4_1), rS, rS, H', ⟨by have := HKy1.out; omega⟩, ⟨(hX HB.out)⟩⟩
      rw [if_pos c6] at H
      have c6b0 := decide_eq_true c6
      clear c6
      obtain ⟨y101, hy101⟩ : ∃ y_ : List Int, y_ = (([(wrap64 (48 + (wrap64 (-(Int.tmod x0_1 10))))) % 256] : List Int)) := ⟨_, rfl⟩
      replace H : (if (strOfNums y101).size + x4_1.size ≤ 9223372036854775807 then (spec_Digits.l0 k1 (wrap64 (Int.tdiv x0_1 10)) (decide (a0 < 0)) ((strOfNums y101) ++ x4_1)) else (none)) = some r := yH H hy101
      have Ny101 := aM hy101
      clear hy101
      replace H := ifP H; obtain ⟨c7, H⟩ := H
      have c7b0 := eq_true c7
      have c7b1 := decide_eq_true c7
      try have c7b2 : (9223372036854775807 < (strOfNums y101).size + x4_1.size) = False := eq_false (Nat.not_lt.2 c7)
      have H' := aM H
      clear H
      go_wp2_with (first | ((with_reducible refine gate_dst (N := 21) rfl ?_); refine Kd.R_lit (Kd.int .u8) _ 5 ?hg (N := 21) ?hd (xs := ([(wrap64 (48 + (wrap64 (-(Int.tmod x0_1 10))))) % 256] : List Int)) (inner := [.int .u8 ((wrap64 (48 + (wrap64 (-(Int.tmod x0_1 10))))) % 256)]) (ok := fun _ => True) (okp := fun _ => True) ?hr ?hp (fun _ hk => hk) trivial (Below.refl _ _) (Nat.le_refl _) (by simp) ?_; (case hd => rfl); (case hg => rfl); (case hr => first | (go_simp; done) | (go_simp; rfl)); (case hp => exact (Reps.one (show Kd.M (Kd.int .u8) _ _ _ ((wrap64 (48 + (wrap64 (-(Int.tmod x0_1 10))))) % 256) [.int .u8 ((wrap64 (48 + (wrap64 (-(Int.tmod x0_1 10))))) % 256)] from rfl) (Reps.none _ _))); intro vx1 wx1 hox1 hb hg_ hnew_; clear hg_ hnew_; (first | rw [← Ny101.out] at hox1 | (simp only [Int.reduceToNat] at hox1; rw [← Ny101.out] at hox1)); have HOx1 := aM (Kd.R_lower hox1 (below_size (hX HB.out))); replace HB := aS HB hb; clear hb hox1; have hcvx1 := own_string (P := Try.prog) Try.underlying22 Try.underlying5 Try.underlying9 (Kd.own_of_R HOx1.out)))
      go_roundg k1
      case measure => have := HKy1.out; omega
      case rel => exact ⟨(wrap64 (Int.tdiv x0_1 10)), ((strOfNums y101) ++ x4_1), rS, rS, H', ⟨by have := HKy1.out; omega⟩, ⟨(hX HB.out)⟩⟩
def spec_ValueText.l0 : Nat → ByteArray → List Int → Int → Int → Int → ByteArray → Option (ByteArray)
  | 0, _, _, _, _, _, _ => none
  | k + 1, x3, x4, x5, x102000, x102001, x102002 => if x5 < (x102002.size : Int) then (if 0 ≤ x5 then (if 0 ≤ ((bt x102002 x5) / 16) then (if ((bt x102002 x5) / 16) < (x3.size : Int) then (if 0 ≤ (Go.bits .and .u8 (bt x102002 x5) 15) then (if (Go.bits .and .u8 (bt x102002 x5) 15) < (x3.size : Int) then ((some (([bt x3 ((bt x102002 x5) / 16), bt x3 (Go.bits .and .u8 (bt x102002 x5) 15)] : List Int) : List Int)).bind fun y111 => (if x4.length + y111.length < 140737488355328 then (spec_ValueText.l0 k x3 (x4 ++ y111) (wrap64 (x5 + 1)) x102000 x102001 x102002) else (none))) else (none)) else (none)) else (none)) else (none)) else (none)) else (some (strOfNums x4))
def spec_ValueText.f (k : Nat) (a0_0 : Int) (a0_1 : Int) (a0_2 : ByteArray) : Option (ByteArray) := (spec_ValueOk.f a0_0 a0_1 a0_2).bind fun t102 => (if t102 = true then (if a0_0 = 1 then ((some (([(⟨#[110, 111]⟩ : ByteArray), (⟨#[121, 101, 115]⟩ : ByteArray)] : List ByteArray) : List ByteArray)).bind fun y103 => (if 0 ≤ a0_1 then (if a0_1 < (y103.length : Int) then (some (rdOf ByteArray.empty y103 a0_1)) else (none)) else (none))) else (if a0_0 = 2 then ((spec_Digits.f k a0_1).bind fun t107 => (some t107)) else (if a0_0 = 3 then (spec_ValueText.l0 k (⟨#[48, 49, 50, 51, 52, 53, 54, 55, 56, 57, 97, 98, 99, 100, 101, 102]⟩ : ByteArray) (([34] : List Int)) 0 a0_0 a0_1 a0_2) else (some (⟨#[110, 117, 108, 108]⟩ : ByteArray))))) else (some (⟨#[98, 97, 100]⟩ : ByteArray)))
def spec_ValueText.T14 : Bool × List (List Nat × List Nat) := (true, [([], []), ([], []), ([], []), ([2], [2]), ([], []), ([3, 4], [3, 4]), ([5], [5]), ([1, 6], [1, 6]), ([], []), ([], []), ([9], [9]), ([], []), ([10, 11], [10, 11]), ([12], [12]), ([8, 13], [8, 13]), ([7, 14], [7, 14]), ([0, 15], [0, 15]), ([16, 16, 0, 1, 2, 3, 4, 5, 6, 7, 8, 9, 10, 11, 12, 13, 14, 15, 16], [0, 16])])
def spec_ValueText.B14 : List Nat := [0, 0, 0, 4, 0, 28, 60, 126, 0, 0, 512, 0, 3584, 7680, 16128, 32766, 65535, 131071]
theorem spec_ValueText.tab14 : rtab .any (opsOf Try.f33 14) = spec_ValueText.T14 := by kernel_rfl
theorem spec_ValueText.bits14 : waitsOk spec_ValueText.T14.2 spec_ValueText.B14 = true := by kernel_rfl
set_option maxHeartbeats 8000000 in
set_option maxRecDepth 100000 in
theorem spec_ValueText.calls (k : Nat) (a0_0 : Int) (a0_1 : Int) (a0_2 : ByteArray) (r : ByteArray) (w : World) (h : spec_ValueText.f k a0_0 a0_1 a0_2 = some r) :
    Calls Try.prog 33 #[.agg #[.int .i64 a0_0, .int .i64 a0_1, .string a0_2]] w fun e w' => e = .returned (.string r) ∧ Below w.heap.size w w' := by
  have hu37 := Try.underlying37
  have HB := aM (Below.refl w.heap.size w)
  have H := h
  unfold spec_ValueText.f at H
  clear h
  replace H := bE H; obtain ⟨t102, A2, H⟩ := H
  go_enter Try.func33, Try.ntmps33
  go_wp2_with (first | ((with_reducible refine gate_dst (N := 1) rfl ?_); refine boxE 1 #[.int .i64 a0_0, .int .i64 a0_1, .string a0_2] 37 ?_; intro gbz1 hg wz1 hbox hb; have BKz1 := aM (hbox); have GWz1 := aG hg HB; have GEz1 := aG hg HB; replace HB := aS HB hb; clear hb hbox hg; obtain ⟨hczz1, hczz2, hczz3, hfzz1, hfzz2, hfzz3⟩ := cZ3 BKz1.out; refine Stop.out ?_))
  refine ⟨?_⟩
  by_cases c3 : t102 = true
  case neg =>
    replace c3 := Bool.eq_false_iff.mpr c3
    subst c3
    rw [if_neg nft] at H
    obtain rfl := sI H
    go_wp2_with (first | ((with_reducible refine gate_callee (f := 31) rfl ?_); refine goesM 31 7 Try.func31 #[.agg #[.int .i64 a0_0, .int .i64 a0_1, .string a0_2]] ?_; refine (spec_ValueOk.calls _ _ _ _ _ A2.out).mono ?_; rintro e wz2 ⟨rfl, hb⟩; refine ⟨_, rfl, ?_⟩; replace BKz1 := aB BKz1 hb; replace HB := aS HB hb; clear hb))
    go_ret
    exact ⟨rE, (hX HB.out)⟩
  subst c3
  rw [if_pos rfl] at H
  go_wp2_with (first | ((with_reducible refine gate_callee (f := 31) rfl ?_); refine goesM 31 7 Try.func31 #[.agg #[.int .i64 a0_0, .int .i64 a0_1, .string a0_2]] ?_; refine (spec_ValueOk.calls _ _ _ _ _ A2.out).mono ?_; rintro e wz2 ⟨rfl, hb⟩; refine ⟨_, rfl, ?_⟩; replace BKz1 := aB BKz1 hb; replace HB := aS HB hb; clear hb; obtain ⟨hczz4, hczz5, hczz6, hfzz4, hfzz5, hfzz6⟩ := cZ3 BKz1.out; refine Stop.out ?_))
  refine ⟨?_⟩
  by_cases c4 : a0_0 = 1
  · rw [if_pos c4] at H
    obtain ⟨c4b0, c4b1⟩ := eqT c4
    clear c4
    replace H := sE H; obtain ⟨y103, Ny103, H⟩ := H
    replace H := ifP H; obtain ⟨c5, H⟩ := H
    have c5b0 := decide_eq_true c5
    clear c5
    replace H := ifP H; obtain ⟨c6, H⟩ := H
    have c6b0 := decide_eq_true c6
    clear c6
    obtain rfl := sI H
    go_wp2_with (first | ((with_reducible refine gate_dst (N := 13) rfl ?_); refine Kd.R_lit Kd.string _ 9 ?hg (N := 13) ?hd (xs := ([(⟨#[110, 111]⟩ : ByteArray), (⟨#[121, 101, 115]⟩ : ByteArray)] : List ByteArray)) (inner := [.string (⟨#[110, 111]⟩ : ByteArray), .string (⟨#[121, 101, 115]⟩ : ByteArray)]) (ok := fun _ => True) (okp := fun _ => True) ?hr ?hp (fun _ hk => hk) trivial (Below.refl _ _) (Nat.le_refl _) (by simp) ?_; (case hd => rfl); (case hg => rfl); (case hr => first | (go_simp; done) | (go_simp; rfl)); (case hp => exact (Reps.one (show Kd.M Kd.string _ _ _ (⟨#[110, 111]⟩ : ByteArray) [.string (⟨#[110, 111]⟩ : ByteArray)] from rfl) (Reps.one (show Kd.M Kd.string _ _ _ (⟨#[121, 101, 115]⟩ : ByteArray) [.string (⟨#[121, 101, 115]⟩ : ByteArray)] from rfl) (Reps.none _ _)))); intro vz1 wz3 hoz1 hb hg_ hnew_; clear hg_ hnew_; (first | rw [← Ny103.out] at hoz1 | (simp only [Int.reduceToNat] at hoz1; rw [← Ny103.out] at hoz1)); have HOz1 := aM (Kd.R_lower hoz1 (below_size (hX HB.out))); replace BKz1 := aB BKz1 hb; replace HB := aS HB hb; clear hb hoz1; obtain ⟨hczz7, hczz8, hczz9, hfzz7, hfzz8, hfzz9⟩ := cZ3 BKz1.out; obtain ⟨Aoz1, coz1, eoz1⟩ := Kd.R_slice HOz1.out; subst eoz1; have pz1 : 0 ≤ (a0_1 : Int) := odA; have qz1 : a0_1 < (y103.length : Int) := odA; obtain ⟨adz1, ez1, hxz1⟩ := Kd.at_string (Kd.R_reads' HOz1.out).2.2 a0_1 pz1 qz1; cases ez1; replace pz1 := eq_true pz1; replace qz1 := eq_true qz1))
    go_ret
    exact ⟨rE, (hX HB.out)⟩
  rw [if_neg c4] at H
  obtain ⟨c4b0, c4b1⟩ := eqF c4
  by_cases c15 : a0_0 = 2
  · rw [if_pos c15] at H
    obtain ⟨c15b0, c15b1⟩ := eqT c15
    clear c15
    replace H := bE H; obtain ⟨t107, A16, H⟩ := H
    obtain rfl := sI H
    go_wp2_with (first | ((with_reducible refine gate_callee (f := 61) rfl ?_); refine goesM 61 22 Try.func61 #[.int .i64 a0_1] ?_; refine (spec_Digits.calls _ _ _ _ A16.out).mono ?_; rintro e wz3 ⟨rfl, hb⟩; refine ⟨_, rfl, ?_⟩; replace BKz1 := aB BKz1 hb; replace HB := aS HB hb; clear hb))
    go_ret
    exact ⟨rE, (hX HB.out)⟩
  rw [if_neg c15] at H
  obtain ⟨c15b0, c15b1⟩ := eqF c15
  by_cases c22 : a0_0 = 3
  case neg =>
    rw [if_neg c22] at H
    obtain ⟨c22b0, c22b1⟩ := eqF c22
    obtain rfl := sI H
    go_wp2
    go_ret
    exact ⟨rE, (hX HB.out)⟩
  rw [if_pos c22] at H
  obtain ⟨c22b0, c22b1⟩ := eqT c22
  clear c22
  obtain ⟨y108, hy108⟩ : ∃ y_ : List Int, y_ = (([34] : List Int)) := ⟨_, rfl⟩
  replace H : (spec_ValueText.l0 k (⟨#[48, 49, 50, 51, 52, 53, 54, 55, 56, 57, 97, 98, 99, 100, 101, 102]⟩ : ByteArray) y108 0 a0_0 a0_1 a0_2) = some r := yH H hy108
  have Ny108 := aM hy108
  clear hy108
  have H' := aM H
  clear H
  go_wp2_with (first | ((with_reducible refine gate_dst (N := 25) rfl ?_); refine Kd.R_lit (Kd.int .u8) _ 5 ?hg (N := 25) ?hd (xs := ([34] : List Int)) (inner := [.int .u8 34]) (ok := fun _ => True) (okp := fun _ => True) ?hr ?hp (fun _ hk => hk) trivial (Below.refl _ _) (Nat.le_refl _) (by simp) ?_; (case hd => rfl); (case hg => rfl); (case hr => first | (go_simp; done) | (go_simp; rfl)); (case hp => exact (Reps.one (show Kd.M (Kd.int .u8) _ _ _ 34 [.int .u8 34] from rfl) (Reps.none _ _))); intro vz1 wz3 hoz1 hb hg_ hnew_; clear hg_ hnew_; (first | rw [← Ny108.out] at hoz1 | (simp only [Int.reduceToNat] at hoz1; rw [← Ny108.out] at hoz1)); have HOz1 := aM (Kd.R_lower hoz1 (below_size (hX HB.out))); replace BKz1 := aB BKz1 hb; replace HB := aS HB hb; clear hb hoz1))
  go_loopg [4, 5] k (fun kq v4 v5 w' => ∃ (x4_1 : List Int) (x5_1 : Int), v5 = .int .i64 x5_1 ∧ Aside0 (spec_ValueText.l0 kq (⟨#[48, 49, 50, 51, 52, 53, 54, 55, 56, 57, 97, 98, 99, 100, 101, 102]⟩ : ByteArray) x4_1 x5_1 a0_0 a0_1 a0_2 = some r) ∧ Aside0 (kq ≤ k) ∧ Aside0 (Kd.R (Kd.int .u8) 5 w' w.heap.size (fun _ => True) v4 x4_1) ∧ Aside0 (w'.heap[gbz1]? = some (.cells #[.int .i64 a0_0, .int .i64 a0_1, .string a0_2] 37 (0, 0))) ∧ Aside0 (Below w.heap.size w w'))
  case atStart => exact ⟨(y108), (0), rS, H', ⟨Nat.le_refl _⟩, ⟨(rX HOz1.out)⟩, ⟨(bX BKz1.out)⟩, ⟨(hX HB.out)⟩⟩
  case round =>
    clear H'
    try clear p1
    try clear q1
    try clear hx1
    try clear p2
    try clear c3
    try clear c4
    try clear c4b0
    try clear c4b1
    try clear p10
    try clear q10
    try clear hx10
    try clear c15
    try clear c15b0
    try clear c15b1
    try clear c22
    try clear c22b0
    try clear c22b1
    try clear hczz1 hczz2 hczz3 hfzz1 hfzz2 hfzz3
    try clear hczz4 hczz5 hczz6 hfzz4 hfzz5 hfzz6
    try clear hx106_0
    try clear p106
    try clear q106
    obtain ⟨x4_1, x5_1, rfl, HA, HKy1, HO_y1, BKz1, HB⟩ := hrel
    cases gk with
    | zero => exact absurd HA.out (by simp [spec_ValueText.l0])
    | succ k1 =>
      have H := HA.out
      clear HA
      simp only [spec_ValueText.l0] at H
      by_cases c29 : x5_1 < (a0_2.size : Int)
      case neg =>
        rw [if_neg c29] at H
        have c29b0 := decide_eq_false c29
        clear c29
        obtain rfl := sI H
        obtain ⟨hczx1, hczx2, hczx3, hfzx1, hfzx2, hfzx3⟩ := cZ3 BKz1.out
        have hcvx1 := own_string (P := Try.prog) Try.underlying22 Try.underlying5 Try.underlying9 (Kd.own_of_R HO_y1.out)
        go_wp2
        go_ret
        exact ⟨rE, (hX HB.out)⟩
      rw [if_pos c29] at H
      have c29b0 := decide_eq_true c29
      clear c29
      replace H := ifP H; obtain ⟨c30, H⟩ := H
      have c30b0 := decide_eq_true c30
      clear c30
      obtain ⟨ji32, hji32⟩ : ∃ j_ : Int, ((bt a0_2 x5_1) / 16) = j_ := ⟨_, rfl⟩
      replace H : (if 0 ≤ (ji32) then (if (ji32) < ((⟨#[48, 49, 50, 51, 52, 53, 54, 55, 56, 57, 97, 98, 99, 100, 101, 102]⟩ : ByteArray).size : Int) then (if 0 ≤ (Go.bits .and .u8 (bt a0_2 x5_1) 15) then (if (Go.bits .and .u8 (bt a0_2 x5_1) 15) < ((⟨#[48, 49, 50, 51, 52, 53, 54, 55, 56, 57, 97, 98, 99, 100, 101, 102]⟩ : ByteArray).size : Int) then ((some (([bt (⟨#[48, 49, 50, 51, 52, 53, 54, 55, 56, 57, 97, 98, 99, 100, 101, 102]⟩ : ByteArray) (ji32), bt (⟨#[48, 49, 50, 51, 52, 53, 54, 55, 56, 57, 97, 98, 99, 100, 101, 102]⟩ : ByteArray) (Go.bits .and .u8 (bt a0_2 x5_1) 15)] : List Int) : List Int)).bind fun y111 => (if x4_1.length + y111.length < 140737488355328 then (spec_ValueText.l0 k1 (⟨#[48, 49, 50, 51, 52, 53, 54, 55, 56, 57, 97, 98, 99, 100, 101, 102]⟩ : ByteArray) (x4_1 ++ y111) (wrap64 (x5_1 + 1)) a0_0 a0_1 a0_2) else (none))) else (none)) else (none)) else (none)) else (none)) = some r := by first | (rw [hji32] at H; exact H) | (simp only [hji32] at H ⊢; exact H)
      replace H := ifP H; obtain ⟨c33, H⟩ := H
      have c33b0 := decide_eq_true c33
      clear c33
      replace H := ifP H; obtain ⟨c34, H⟩ := H
      have c34b0 := decide_eq_true c34
      clear c34
      replace H := ifP H; obtain ⟨c37, H⟩ := H
      have c37b0 := decide_eq_true c37
      clear c37
      replace H := ifP H; obtain ⟨c38, H⟩ := H
      have c38b0 := decide_eq_true c38
      clear c38
      replace H := sE H; obtain ⟨y111, Ny111, H⟩ := H
      replace H := ifP H; obtain ⟨c40, H⟩ := H
      have LMc40 := aM c40
      clear c40
      obtain ⟨y114, hy114⟩ : ∃ y_ : List Int, y_ = (x4_1 ++ y111) := ⟨_, rfl⟩
      replace H : (spec_ValueText.l0 k1 (⟨#[48, 49, 50, 51, 52, 53, 54, 55, 56, 57, 97, 98, 99, 100, 101, 102]⟩ : ByteArray) y114 (wrap64 (x5_1 + 1)) a0_0 a0_1 a0_2) = some r := yH H hy114
      have Ny114 := aM hy114
      clear hy114
      have H' := aM H
      clear H
      obtain ⟨hczx1, hczx2, hczx3, hfzx1, hfzx2, hfzx3⟩ := cZ3 BKz1.out
      try go_wp2
      replace HO_y1 := aM (Kd.R_drew HO_y1.out)
      replace BKz1 := aM (blk_drew BKz1.out)
      replace HB := aM (below_drew1 HB.out)
      have px1 : 0 ≤ (x5_1 : Int) := odA
      have qx1 : x5_1 < (a0_2.size : Int) := odA
      have hxx1 := bt_at a0_2 x5_1
      replace px1 := eq_true px1
      replace qx1 := eq_true qx1
      have px2 : 0 ≤ ((ji32) : Int) := odA
      have qx2 : (ji32) < (16 : Int) := odA
      have hxx2 := bt_at (⟨#[48, 49, 50, 51, 52, 53, 54, 55, 56, 57, 97, 98, 99, 100, 101, 102]⟩ : ByteArray) (ji32)
      replace px2 := eq_true px2
      replace qx2 := eq_true qx2
      have px3 : 0 ≤ (x5_1 : Int) := odA
      have qx3 : x5_1 < (a0_2.size : Int) := odA
      have hxx3 := bt_at a0_2 x5_1
      replace px3 := eq_true px3
      replace qx3 := eq_true qx3
      have px4 : 0 ≤ ((Go.bits .and .u8 (bt a0_2 x5_1) 15) : Int) := odA
      have qx4 : (Go.bits .and .u8 (bt a0_2 x5_1) 15) < (16 : Int) := odA
      have hxx4 := bt_at (⟨#[48, 49, 50, 51, 52, 53, 54, 55, 56, 57, 97, 98, 99, 100, 101, 102]⟩ : ByteArray) (Go.bits .and .u8 (bt a0_2 x5_1) 15)
      replace px4 := eq_true px4
      replace qx4 := eq_true qx4
      refine start_ (n := 18) (S := fun w' => w'.cell? ⟨gbz1, 0, none⟩ = some (.int .i64 a0_0) ∧ w'.cell? ⟨gbz1, 1, none⟩ = some (.int .i64 a0_1) ∧ w'.cell? ⟨gbz1, 2, none⟩ = some (.string a0_2)) (ds := []) (bm 18 0) (by kernel_rfl) rfl (by kernel_rfl) ⟨cK BKz1.out 0, cK BKz1.out 1, cK BKz1.out 2⟩ (fun hHeld => ?_); refine with_tabW spec_ValueText.tab14 spec_ValueText.bits14 (fun HT_ HW_ => ?_)
      generalize wr.drew = wx1 at HO_y1 BKz1 HB hHeld ⊢
      refine pZ 0 33 (bm 18 1) HT_.out ?_
      refine pZ 1 34 (bm 18 3) HT_.out ?_
      refine pZ 2 35 (bm 18 7) HT_.out ?_
      refine pZ 4 37 (bm 18 23) HT_.out ?_
      refine pZ 8 41 (bm 18 279) HT_.out ?_
      refine pZ 9 42 (bm 18 791) HT_.out ?_
      refine pZ 11 44 (bm 18 2839) HT_.out ?_
      refine tZ 3 36 (bm 18 2847) HT_.out HW_.out hHeld ?_
      refine tZ 5 38 (bm 18 2879) HT_.out HW_.out hHeld ?_
      refine pZ 6 39 (bm 18 2943) HT_.out ?_
      refine tZ 7 40 (bm 18 3071) HT_.out HW_.out hHeld ?_
      refine tZ 10 43 (bm 18 4095) HT_.out HW_.out hHeld ?_
      refine tZ 12 45 (bm 18 8191) HT_.out HW_.out hHeld ?_
      refine pZ 13 46 (bm 18 16383) HT_.out ?_
      refine tZ 14 47 (bm 18 32767) HT_.out HW_.out hHeld ?_
      refine oZ 15 (some 48) (bm 18 65535) HT_.out (fun K hK => ?_)
      refine Kd.R_lit_step (Kd.int .u8) _ 5 ?hg (N := 48) ?hd (xs := ([bt (⟨#[48, 49, 50, 51, 52, 53, 54, 55, 56, 57, 97, 98, 99, 100, 101, 102]⟩ : ByteArray) (ji32), bt (⟨#[48, 49, 50, 51, 52, 53, 54, 55, 56, 57, 97, 98, 99, 100, 101, 102]⟩ : ByteArray) (Go.bits .and .u8 (bt a0_2 x5_1) 15)] : List Int)) (inner := [.int .u8 (bt (⟨#[48, 49, 50, 51, 52, 53, 54, 55, 56, 57, 97, 98, 99, 100, 101, 102]⟩ : ByteArray) (ji32)), .int .u8 (bt (⟨#[48, 49, 50, 51, 52, 53, 54, 55, 56, 57, 97, 98, 99, 100, 101, 102]⟩ : ByteArray) (Go.bits .and .u8 (bt a0_2 x5_1) 15))]) (ok := fun _ => True) (okp := fun _ => True) ?hr ?hp (fun _ hk => hk) trivial (Below.refl _ _) (Nat.le_refl _) (by simp) ?_; (case hd => rfl); (case hg => rfl); (case hr => first | (go_simp; done) | (go_simp; rfl)); (case hp => exact (Reps.one (show Kd.M (Kd.int .u8) _ _ _ (bt (⟨#[48, 49, 50, 51, 52, 53, 54, 55, 56, 57, 97, 98, 99, 100, 101, 102]⟩ : ByteArray) (ji32)) [.int .u8 (bt (⟨#[48, 49, 50, 51, 52, 53, 54, 55, 56, 57, 97, 98, 99, 100, 101, 102]⟩ : ByteArray) (ji32))] from rfl) (Reps.one (show Kd.M (Kd.int .u8) _ _ _ (bt (⟨#[48, 49, 50, 51, 52, 53, 54, 55, 56, 57, 97, 98, 99, 100, 101, 102]⟩ : ByteArray) (Go.bits .and .u8 (bt a0_2 x5_1) 15)) [.int .u8 (bt (⟨#[48, 49, 50, 51, 52, 53, 54, 55, 56, 57, 97, 98, 99, 100, 101, 102]⟩ : ByteArray) (Go.bits .and .u8 (bt a0_2 x5_1) 15))] from rfl) (Reps.none _ _))))
      intro vx1 wx2 hox1 hb hg_ hnew_
      clear hg_ hnew_
      (first | rw [← Ny111.out] at hox1 | (simp only [Int.reduceToNat] at hox1; rw [← Ny111.out] at hox1))
      have HOx1 := aM (Kd.R_lower (Kd.R_new' hox1 (Kd.R_lt (rX HO_y1.out))) (below_size (hX HB.out)))
      replace HO_y1 := aM (Kd.R_elder' (rX HO_y1.out) (Kd.R_base hox1) hb)
      replace BKz1 := aB BKz1 hb
      replace HB := aS HB hb
      clear hb hox1
      obtain ⟨Aox1, cox1, eox1⟩ := Kd.R_slice HOx1.out
      (first | subst eox1 | (injection eox1 with f1_ f2_ f3_; have fx1 := f1_.symm; have fx2 := f3_.symm; clear f1_ f2_ f3_; subst fx1; subst fx2))
      refine hK.out _ _ ⟨cK BKz1.out 0, cK BKz1.out 1, cK BKz1.out 2⟩ (fun hHeld => ?_)
      clear hK K
      refine nZ 48 ?_
      refine oZ 16 (some 49) (bm 18 131071) HT_.out (fun K hK => ?_)
      refine Kd.R_append_rows_step (Kd.int .u8) (w0 := w) w.heap.size (by rfl) (.tmp 33) (.tmp 48) 22 5 (.int .u8 0) 1 rfl Try.underlying22 info5 rfl (by decide) (by omega) u4 x4_1 y111 _ _ _ (fun k_ => some k_ ≠ (.slice Aox1 y111.length cox1 : Value).ownBlock) (fun _ => False) rfl rfl ?aO ?aR (fun _ _ h => h) (fun _ h => h.elim) ?aF ?aB ?aS ?aL ?_
      (case aR => repeat (first | exact (Kd.R_reads' HOx1.out).2.2 | (with_reducible refine Kd.C_alloc ?_ _) | (with_reducible refine Kd.C_drewN ?_ _) | (with_reducible refine Kd.C_drew ?_)))
      (case aB => exact (hX HB.out))
      (case aF => exact (fun k_ hk => Kd.fresh' (Kd.R_lt (rX HOx1.out)) k_ hk))
      (case aO => exact (rT (h := by exact Kd.R_mono HO_y1.out (fun _ hk => hk.2))))
      (case aS => exact (below_size (hX HB.out)))
      (case aL => have := LMc40.out; omega)
      intro vx2 wx3 ho hb hg hat
      rw [← Ny114.out] at ho
      have HOx2 := aM (ho)
      replace BKz1 := aM (blk_grown (g := gbz1) (o := .cells #[.int .i64 a0_0, .int .i64 a0_1, .string a0_2] 37 (0, 0)) (bX BKz1.out) hg (Kd.R_ne HO_y1.out BKz1.out (by decide)))
      replace HOx1 := aM (Kd.R_after (ok := (fun _ => True)) (rX HOx1.out) hg hat)
      replace HB := aM (hb)
      clear HO_y1
      clear ho hb hg hat
      refine hK.out _ _ ⟨cK BKz1.out 0, cK BKz1.out 1, cK BKz1.out 2⟩ (fun hHeld => ?_)
      clear hK K
      refine nZ 49 ?_
      refine pZ 17 4 (bm 18 262143) HT_.out ?_
      refine done_ (done_of HT_.out (by kernel_rfl)) ?_
      try go_wp2
      go_roundg k1
      case measure => have := HKy1.out; omega
      case rel => exact ⟨(y114), (wrap64 (x5_1 + 1)), rS, H', ⟨by have := HKy1.out; omega⟩, ⟨(rT (h := by exact Kd.R_mono HOx2.out (fun _ hk => trivial)))⟩, ⟨(bX BKz1.out)⟩, ⟨(hX HB.out)⟩⟩
def spec_TupleText.l0 : Nat → List (S37) → ByteArray → Int → Option (ByteArray)
  | 0, _, _, _ => none
  | k + 1, x0, x3, x4 => if x4 < (x0.length : Int) then (if x4 > 0 then (if x3.size + 1 ≤ 9223372036854775807 then (if 0 ≤ x4 then ((spec_ValueText.f k ((rd_T37 x0 x4).f0) ((rd_T37 x0 x4).f1) ((rd_T37 x0 x4).f2)).bind fun t102 => (if (x3 ++ (⟨#[44]⟩ : ByteArray)).size + t102.size ≤ 9223372036854775807 then (spec_TupleText.l0 k x0 ((x3 ++ (⟨#[44]⟩ : ByteArray)) ++ t102) (wrap64 (x4 + 1))) else (none))) else (none)) else (none)) else (if 0 ≤ x4 then ((spec_ValueText.f k ((rd_T37 x0 x4).f0) ((rd_T37 x0 x4).f1) ((rd_T37 x0 x4).f2)).bind fun t104 => (if x3.size + t104.size ≤ 9223372036854775807 then (spec_TupleText.l0 k x0 (x3 ++ t104) (wrap64 (x4 + 1))) else (none))) else (none))) else (some x3)
def spec_TupleText.f (k : Nat) (l0 : List (S37)) : Option (ByteArray) := spec_TupleText.l0 k l0 (⟨#[]⟩ : ByteArray) 0
set_option maxHeartbeats 8000000 in
set_option maxRecDepth 100000 in
theorem spec_TupleText.calls (k : Nat) (A0 : Option Addr) (c0 : Nat) (l0 : List (S37)) (r : ByteArray) (w : World) (hr0 : Kd.C k37 w A0 l0.length l0) (hc0 : l0.length ≤ c0) (h : spec_TupleText.f k l0 = some r) :
    Calls Try.prog 46 #[.slice A0 l0.length c0] w fun e w' => e = .returned (.string r) ∧ Below w.heap.size w w' := by
  have hu37 := Try.underlying37
  have HR0 := aM hr0
  have HC0 := aM hc0
  clear hr0 hc0
  have HB := aM (Below.refl w.heap.size w)
  have H := h
  unfold spec_TupleText.f at H
  clear h
  have H' := aM H
  clear H
  go_enter Try.func46, Try.ntmps46
  go_wp2
  go_loopg [3, 4] k (fun kq v3 v4 w' => ∃ (x3_1 : ByteArray) (x4_1 : Int), v3 = .string x3_1 ∧ v4 = .int .i64 x4_1 ∧ Aside0 (spec_TupleText.l0 kq l0 x3_1 x4_1 = some r) ∧ Aside0 (kq ≤ k) ∧ Aside0 (Below w.heap.size w w'))
  case atStart => exact ⟨((⟨#[]⟩ : ByteArray)), (0), rS, rS, H', ⟨Nat.le_refl _⟩, ⟨(hX HB.out)⟩⟩
  case round =>
    clear H'
    obtain ⟨x3_1, x4_1, rfl, rfl, HA, HKy1, HB⟩ := hrel
    cases gk with
    | zero => exact absurd HA.out (by simp [spec_TupleText.l0])
    | succ k1 =>
      have H := HA.out
      clear HA
      simp only [spec_TupleText.l0] at H
      by_cases c2 : x4_1 < (l0.length : Int)
      case neg =>
        rw [if_neg c2] at H
        have c2b0 := decide_eq_false c2
        clear c2
        obtain rfl := sI H
        go_wp2
        go_ret
        exact ⟨rE, (hX HB.out)⟩
      rw [if_pos c2] at H
      have c2b0 := decide_eq_true c2
      clear c2
      by_cases c3 : x4_1 > 0
      case neg =>
        rw [if_neg c3] at H
        have c3b0 := decide_eq_false c3
        clear c3
        replace H := ifP H; obtain ⟨c9, H⟩ := H
        have c9b0 := decide_eq_true c9
        clear c9
        replace H := bE H; obtain ⟨t104, A10, H⟩ := H
        replace H := ifP H; obtain ⟨c11, H⟩ := H
        have c11b0 := eq_true c11
        have c11b1 := decide_eq_true c11
        try have c11b2 : (9223372036854775807 < x3_1.size + t104.size) = False := eq_false (Nat.not_lt.2 c11)
        have H' := aM H
        clear H
        have px1 : 0 ≤ (x4_1 : Int) := odA
        have qx1 : x4_1 < (l0.length : Int) := odA
        obtain ⟨adx1, ex1, hxx1, hxx2, hxx3⟩ := at_T37b HR0.out HB.out x4_1 px1 qx1
        cases ex1
        replace px1 := eq_true px1
        replace qx1 := eq_true qx1
        go_wp2_with (first | (refine goesM 33 20 Try.func33 #[.agg #[.int .i64 ((rd_T37 l0 x4_1).f0), .int .i64 ((rd_T37 l0 x4_1).f1), .string ((rd_T37 l0 x4_1).f2)]] ?_; refine (spec_ValueText.calls _ _ _ _ _ _ A10.out).mono ?_; rintro e wx1 ⟨rfl, hb⟩; refine ⟨_, rfl, ?_⟩; replace HB := aS HB hb; clear hb))
        go_roundg k1
        case measure => have := HKy1.out; omega
        case rel => exact ⟨(x3_1 ++ t104), (wrap64 (x4_1 + 1)), rS, rS, H', ⟨by have := HKy1.out; omega⟩, ⟨(hX HB.out)⟩⟩
      rw [if_pos c3] at H
      have c3b0 := decide_eq_true c3
      clear c3
      replace H := ifP H; obtain ⟨c4, H⟩ := H
      have c4b0 := eq_true c4
      have c4b1 := decide_eq_true c4
      try have c4b2 : (9223372036854775807 < x3_1.size + 1) = False := eq_false (Nat.not_lt.2 c4)
      replace H := ifP H; obtain ⟨c5, H⟩ := H
      have c5b0 := decide_eq_true c5
      clear c5
      replace H := bE H; obtain ⟨t102, A6, H⟩ := H
      replace H := ifP H; obtain ⟨c7, H⟩ := H
      have c7b0 := eq_true c7
      have c7b1 := decide_eq_true c7
      try have c7b2 : (9223372036854775807 < (x3_1 ++ (⟨#[44]⟩ : ByteArray)).size + t102.size) = False := eq_false (Nat.not_lt.2 c7)
      (try (have c7b3 : x3_1.size + 1 + t102.size ≤ 9223372036854775807 := (by have h_ := c7; simp only [ByteArray.size_append, strOfNums_size] at h_; exact h_); have c7b4 := eq_true c7b3; (try have c7b5 := decide_eq_true c7b3); (try have c7b6 := eq_false (Nat.not_lt.2 c7b3))))
      have H' := aM H
      clear H
      have px1 : 0 ≤ (x4_1 : Int) := odA
      have qx1 : x4_1 < (l0.length : Int) := odA
      obtain ⟨adx1, ex1, hxx1, hxx2, hxx3⟩ := at_T37b HR0.out HB.out x4_1 px1 qx1
      cases ex1
      replace px1 := eq_true px1
      replace qx1 := eq_true qx1
      go_wp2_with (first | (refine goesM 33 20 Try.func33 #[.agg #[.int .i64 ((rd_T37 l0 x4_1).f0), .int .i64 ((rd_T37 l0 x4_1).f1), .string ((rd_T37 l0 x4_1).f2)]] ?_; refine (spec_ValueText.calls _ _ _ _ _ _ A6.out).mono ?_; rintro e wx1 ⟨rfl, hb⟩; refine ⟨_, rfl, ?_⟩; replace HB := aS HB hb; clear hb))
      go_roundg k1
      case measure => have := HKy1.out; omega
      case rel => exact ⟨((x3_1 ++ (⟨#[44]⟩ : ByteArray)) ++ t102), (wrap64 (x4_1 + 1)), rS, rS, H', ⟨by have := HKy1.out; omega⟩, ⟨(hX HB.out)⟩⟩
def laws_big.f (l0 : List Int) : Option (Bool) := some (decide ((l0.length : Int) > 1048576))
set_option maxHeartbeats 8000000 in
set_option maxRecDepth 100000 in
theorem laws_big.calls (A0 : Option Addr) (c0 : Nat) (l0 : List Int) (r : Bool) (w : World) (hr0 : Kd.C (Kd.int .u8) w A0 l0.length l0) (hc0 : l0.length ≤ c0) (h : laws_big.f l0 = some r) :
    Calls Try.prog 9 #[.slice A0 l0.length c0] w fun e w' => e = .returned (.bool r) ∧ Drawn0 w w' := by
  have HR0 := aM hr0
  have HC0 := aM hc0
  clear hr0 hc0
  have H := h
  unfold laws_big.f at H
  clear h
  obtain rfl := sI H
  go_enter Try.func9, Try.ntmps9
  go_wp2
  go_ret
  exact ⟨by first | rfl | (simp; done) | (simp [*]; done), dX⟩
def laws_FnTuples.j0 : Nat → List (S37) → List Int → Bool → Option (Bool)
  | 0, _, _, _ => none
  | k + 1, x3, x4, x77 => if x77 = true then (some false) else ((impl_TupleOk.f k x3).bind fun t136 => (if t136 = true then ((impl_TupleOf.f k x4).bind fun bt137 => (if bt137.2 = true then ((laws_sameTuple.f k bt137.1 x3).bind fun t141 => (some t141)) else (some false))) else (some ((x4.length : Int) == 0))))
def laws_FnTuples.f (k : Nat) (l0 : List Int) : Option (Bool) := (laws_big.f l0).bind fun t101 => (if t101 = true then (some true) else ((spec_DrawTupleBytes.f k l0).bind fun t102 => ((impl_TupleBytes.f k t102).bind fun t105 => ((spec_DrawTupleOf.f k l0).bind fun t108 => ((impl_TupleOf.f k t108).bind fun bt111 => ((spec_TupleOf.f k t108).bind fun bt115 => ((spec_DrawTupleOk.f k l0).bind fun t119 => ((spec_DrawTupleText.f k l0).bind fun t122 => ((spec_TupleBytes.f k t102).bind fun t125 => (if (strOfNums t105).toList = (strOfNums t125).toList then (if (bt111.2 != bt115.2) = true then (laws_FnTuples.j0 k t102 t105 true) else ((laws_sameTuple.f k bt111.1 bt115.1).bind fun t128 => (if t128 = true then ((impl_TupleOk.f k t119).bind fun t129 => ((spec_TupleOk.f k t119).bind fun t130 => (if (t129 != t130) = true then (laws_FnTuples.j0 k t102 t105 true) else ((impl_TupleText.f k t122).bind fun t131 => ((spec_TupleText.f k t122).bind fun t132 => (if t131.toList = t132.toList then (if bt111.2 = true then ((impl_TupleBytes.f k bt111.1).bind fun t133 => (laws_FnTuples.j0 k t102 t105 ((strOfNums t133).toList != (strOfNums t108).toList))) else (laws_FnTuples.j0 k t102 t105 false)) else (laws_FnTuples.j0 k t102 t105 true))))))) else (laws_FnTuples.j0 k t102 t105 true)))) else (laws_FnTuples.j0 k t102 t105 true)))))))))))
def laws_FnTuples.T9 : Bool × List (List Nat × List Nat) := (true, [([], []), ([0], [0]), ([], []), ([2], [2]), ([3], [3]), ([1, 4], [1, 4]), ([5, 3], [5]), ([6], [6]), ([6], [6]), ([7, 8, 6], [6, 7, 8]), ([6, 9], [6, 9]), ([10, 6], [10]), ([11], [11]), ([11], [11]), ([12, 13, 11, 11], [11, 12, 13]), ([14, 11], [11, 14]), ([11, 15], [11, 15]), ([16, 14], [16]), ([17], [17]), ([18, 17, 17], [17, 18]), ([17], [17]), ([20, 19, 17], [17, 20]), ([19, 21, 17], [17, 19, 21]), ([17, 22], [17, 22]), ([23, 21], [23]), ([24], [24]), ([25, 24, 24], [24, 25]), ([24], [24]), ([27, 26, 24], [24, 27]), ([26, 28, 24], [24, 26, 28]), ([24, 29], [24, 29]), ([30, 28], [30]), ([31], [31]), ([32, 31, 31], [31, 32]), ([33], [33]), ([34, 33, 33], [33, 34]), ([35, 33], [33, 35]), ([33], [33]), ([37, 33], [33, 37]), ([36, 38, 33], [33, 36, 38]), ([33, 39, 31], [31, 33, 39]), ([31, 40], [31, 40])])
def laws_FnTuples.B9 : List Nat := [0, 1, 0, 4, 12, 31, 63, 127, 127, 511, 1023, 2047, 4095, 4095, 16383, 32767, 65535, 131071, 262143, 524287, 262143, 2097151, 4194303, 8388607, 16777215, 33554431, 67108863, 33554431, 268435455, 536870911, 1073741823, 2147483647, 4294967295, 8589934591, 17179869183, 34359738367, 68719476735, 17179869183, 154618822655, 549755813887, 1099511627775, 2199023255551]
theorem laws_FnTuples.tab9 : rtab .any (opsOf Try.f8 9) = laws_FnTuples.T9 := by kernel_rfl
theorem laws_FnTuples.bits9 : waitsOk laws_FnTuples.T9.2 laws_FnTuples.B9 = true := by kernel_rfl
set_option maxHeartbeats 8000000 in
set_option maxRecDepth 100000 in
theorem laws_FnTuples.calls (k : Nat) (A0 : Option Addr) (c0 : Nat) (l0 : List Int) (r : Bool) (w : World) (hr0 : Kd.C (Kd.int .u8) w A0 l0.length l0) (hc0 : l0.length ≤ c0) (h : laws_FnTuples.f k l0 = some r) :
    Calls Try.prog 8 #[.slice A0 l0.length c0] w fun e w' => e = .returned (.bool r) ∧ Below w.heap.size w w' := by
  have HR0 := Aside0.mk hr0
  have HC0 := Aside0.mk hc0
  clear hr0 hc0
  have HB := Aside0.mk (Below.refl w.heap.size w)
  have H := h
  unfold laws_FnTuples.f at H
  clear h
  replace H := bE H; obtain ⟨t101, A2, H⟩ := H
  go_enter Try.func8, Try.ntmps8
  by_cases c3 : t101 = true
  · subst c3
    rw [if_pos rfl] at H
    obtain rfl := Option.some.inj H
    go_wp2_with (first | (refine goesM 9 15 Try.func9 #[.slice A0 l0.length c0] ?_; refine (laws_big.calls _ _ l0 true _ (cX HR0.out) HC0.out A2.out).mono ?_; rintro e w' ⟨rfl, ⟨nd, rfl⟩⟩; refine ⟨_, rfl, ?_⟩))
    go_ret
    exact ⟨rE, (hX HB.out)⟩
  · replace c3 := Bool.eq_false_iff.mpr c3
    subst c3
    rw [if_neg nft] at H
    replace H := bE H; obtain ⟨t102, A4, H⟩ := H
    replace H := bE H; obtain ⟨t105, A5, H⟩ := H
    replace H := bE H; obtain ⟨t108, A6, H⟩ := H
    replace H := bE H; obtain ⟨⟨t111, t114⟩, A7, H⟩ := H
    try dsimp only at H
    replace H := bE H; obtain ⟨⟨t115, t116⟩, A8, H⟩ := H
    try dsimp only at H
    replace H := bE H; obtain ⟨t119, A9, H⟩ := H
    replace H := bE H; obtain ⟨t122, A10, H⟩ := H
    have HC11 := Aside0.mk H
    clear H
    go_upto_region 9 with (first | ((with_reducible refine gate_callee (f := 9) rfl ?_); refine goesM 9 15 Try.func9 #[.slice A0 l0.length c0] ?_; refine (laws_big.calls _ _ l0 false _ (cX HR0.out) HC0.out A2.out).mono ?_; rintro e w' ⟨rfl, ⟨nd, rfl⟩⟩; refine ⟨_, rfl, ?_⟩) | ((with_reducible refine gate_callee (f := 20) rfl ?_); refine goesM 20 17 Try.func20 #[.slice A0 l0.length c0] ?_; refine (spec_DrawTupleBytes.calls k _ _ l0 t102 _ (cX HR0.out) HC0.out A4.out).mono ?_; rintro e wz1 ⟨vz1, rfl, hoz1, hb⟩; refine ⟨_, rfl, ?_⟩; have HOz1 := Aside0.mk (Kd.R_lower hoz1 (below_size (hX HB.out))); replace HB := Aside0.mk (below_step (hX HB.out) hb); clear hb hoz1; obtain ⟨Aoz1, coz1, eoz1⟩ := Kd.R_slice HOz1.out; subst eoz1) | ((with_reducible refine gate_callee (f := 14) rfl ?_); refine goesM 14 19 Try.func14 #[.slice Aoz1 t102.length coz1] ?_; refine (impl_TupleBytes.calls k _ _ t102 t105 _ (cX (Kd.R_reads' HOz1.out).2.2) ((Kd.R_reads' HOz1.out).2.1) A5.out).mono ?_; rintro e wz2 ⟨vz2, rfl, hoz1, hb⟩; refine ⟨_, rfl, ?_⟩; have HOz2 := Aside0.mk (Kd.R_lower hoz1 (below_size (hX HB.out))); replace HOz1 := Aside0.mk (Kd.R_below (rX HOz1.out) hb); replace HB := Aside0.mk (below_step (hX HB.out) hb); clear hb hoz1) | ((with_reducible refine gate_callee (f := 39) rfl ?_); refine goesM 39 21 Try.func39 #[.slice A0 l0.length c0] ?_; refine (spec_DrawTupleOf.calls k _ _ l0 t108 _ (cC HR0.out HB.out) HC0.out A6.out).mono ?_; rintro e wz3 ⟨vz3, rfl, hoz1, hb⟩; refine ⟨_, rfl, ?_⟩; have HOz3 := Aside0.mk (Kd.R_lower (Kd.R_new' hoz1 (Kd.R_lt (rX HOz2.out))) (below_size (hX HB.out))); replace HOz1 := Aside0.mk (Kd.R_below (rX HOz1.out) hb); replace HOz2 := Aside0.mk (Kd.R_elder' (rX HOz2.out) (Kd.R_base hoz1) hb); replace HB := Aside0.mk (below_step (hX HB.out) hb); clear hb hoz1; obtain ⟨Aoz2, coz2, eoz2⟩ := Kd.R_slice HOz3.out; subst eoz2) | ((with_reducible refine gate_callee (f := 40) rfl ?_); refine goesM 40 24 Try.func40 #[.slice Aoz2 t108.length coz2] ?_; refine (impl_TupleOf.calls k (fun k_ => some k_ = (.slice Aoz2 t108.length coz2 : Value).ownBlock) _ _ t108 t111 t114 _ (by exact Kd.R_V (Kd.R_tight rfl (Kd.R_apart' (HOz3.out) (Kd.R_typed HOz1.out) (by decide)))) A7.out).mono ?_; rintro e wz4 ⟨vz4, rfl, hoz1, hb⟩; refine ⟨_, rfl, ?_⟩; have HOz4 := Aside0.mk (Kd.R_lower (Kd.R_new' (Kd.R_mono (ok' := fun k_ => True) hoz1 (fun _ hk_ => trivial)) (Kd.R_lt (rX HOz1.out))) (below_size (hX HB.out))); replace HOz1 := Aside0.mk (Kd.R_elder' (rX HOz1.out) (Kd.R_base hoz1) hb); replace HOz2 := Aside0.mk (Kd.R_below (rX HOz2.out) hb); replace HOz3 := Aside0.mk (Kd.R_below (rX HOz3.out) hb); replace HB := Aside0.mk (below_step (hX HB.out) hb); clear hb hoz1) | ((with_reducible refine gate_callee (f := 41) rfl ?_); refine goesM 41 29 Try.func41 #[.slice Aoz2 t108.length coz2] ?_; refine (spec_TupleOf.calls k _ _ t108 t115 t116 _ (cX (Kd.R_reads' HOz3.out).2.2) ((Kd.R_reads' HOz3.out).2.1) A8.out).mono ?_; rintro e wz5 ⟨vz5, rfl, hoz1, hb⟩; refine ⟨_, rfl, ?_⟩; have HOz5 := Aside0.mk (Kd.R_lower (Kd.R_new' (Kd.R_new' hoz1 (Kd.R_lt (rX HOz1.out))) (Kd.R_lt (rX HOz4.out))) (below_size (hX HB.out))); replace HOz1 := Aside0.mk (Kd.R_elder' (rX HOz1.out) (Kd.R_base hoz1) hb); replace HOz2 := Aside0.mk (Kd.R_below (rX HOz2.out) hb); replace HOz3 := Aside0.mk (Kd.R_below (rX HOz3.out) hb); replace HOz4 := Aside0.mk (Kd.R_elder' (rX HOz4.out) (Kd.R_base hoz1) hb); replace HB := Aside0.mk (below_step (hX HB.out) hb); clear hb hoz1) | ((with_reducible refine gate_callee (f := 42) rfl ?_); refine goesM 42 33 Try.func42 #[.slice A0 l0.length c0] ?_; refine (spec_DrawTupleOk.calls k _ _ l0 t119 _ (cC HR0.out HB.out) HC0.out A9.out).mono ?_; rintro e wz6 ⟨vz6, rfl, hoz1, hb⟩; refine ⟨_, rfl, ?_⟩; have HOz6 := Aside0.mk (Kd.R_lower (Kd.R_new' (Kd.R_new' (Kd.R_new' hoz1 (Kd.R_lt (rX HOz1.out))) (Kd.R_lt (rX HOz4.out))) (Kd.R_lt (rX HOz5.out))) (below_size (hX HB.out))); replace HOz1 := Aside0.mk (Kd.R_elder' (rX HOz1.out) (Kd.R_base hoz1) hb); replace HOz2 := Aside0.mk (Kd.R_below (rX HOz2.out) hb); replace HOz3 := Aside0.mk (Kd.R_below (rX HOz3.out) hb); replace HOz4 := Aside0.mk (Kd.R_elder' (rX HOz4.out) (Kd.R_base hoz1) hb); replace HOz5 := Aside0.mk (Kd.R_elder' (rX HOz5.out) (Kd.R_base hoz1) hb); replace HB := Aside0.mk (below_step (hX HB.out) hb); clear hb hoz1) | ((with_reducible refine gate_callee (f := 43) rfl ?_); refine goesM 43 35 Try.func43 #[.slice A0 l0.length c0] ?_; refine (spec_DrawTupleText.calls k _ _ l0 t122 _ (cC HR0.out HB.out) HC0.out A10.out).mono ?_; rintro e wz7 ⟨vz7, rfl, hoz1, hb⟩; refine ⟨_, rfl, ?_⟩; have HOz7 := Aside0.mk (Kd.R_lower (Kd.R_new' (Kd.R_new' (Kd.R_new' (Kd.R_new' hoz1 (Kd.R_lt (rX HOz1.out))) (Kd.R_lt (rX HOz4.out))) (Kd.R_lt (rX HOz5.out))) (Kd.R_lt (rX HOz6.out))) (below_size (hX HB.out))); replace HOz1 := Aside0.mk (Kd.R_elder' (rX HOz1.out) (Kd.R_base hoz1) hb); replace HOz2 := Aside0.mk (Kd.R_below (rX HOz2.out) hb); replace HOz3 := Aside0.mk (Kd.R_below (rX HOz3.out) hb); replace HOz4 := Aside0.mk (Kd.R_elder' (rX HOz4.out) (Kd.R_base hoz1) hb); replace HOz5 := Aside0.mk (Kd.R_elder' (rX HOz5.out) (Kd.R_base hoz1) hb); replace HOz6 := Aside0.mk (Kd.R_elder' (rX HOz6.out) (Kd.R_base hoz1) hb); replace HB := Aside0.mk (below_step (hX HB.out) hb); clear hb hoz1))
    (try simp only [Act.put, List.setIfInBounds_toArray, List.set_cons_zero, List.set_cons_succ])
    go_cut [77] (fun vz8 wc => ∃ (kq : Nat) (x77_10 : Bool), vz8 = .bool x77_10 ∧ Aside0 (laws_FnTuples.j0 kq t102 t105 x77_10 = some r) ∧ Aside0 (kq ≤ k) ∧ Aside0 (Kd.R k37 37 wc w.heap.size (fun _ => True) (.slice Aoz1 t102.length coz1) t102) ∧ Aside0 (Kd.R (Kd.int .u8) 5 wc w.heap.size (fun _ => True) vz2 t105) ∧ Aside0 (Below w.heap.size w wc))
    case first =>
      have H := HC11.out
      clear HC11
      replace H := bE H; obtain ⟨t125, A21, H⟩ := H
      by_cases c22 : (strOfNums t105).toList = (strOfNums t125).toList
      · rw [if_pos c22] at H
        obtain ⟨c22b0, c22b1⟩ := eqT c22
        clear c22
        (first | rw [c22b0] | (simp only [i64_w, i32_w]; rw [c22b0]) | skip)
        by_cases c23 : (t114 != t116) = true
        · rw [if_pos c23] at H
          have c23b0 : (t114 != t116) = true := c23
          (try (have c23b1 : decide (t114 = t116) = false := by simpa using c23))
          (try (have c23b2 : (t114 == t116) = false := by simpa using c23))
          (try (have c23b3 : ¬ (t114 = t116) := by simpa using c23))
          clear c23
          have H' := Aside0.mk H
          clear H
          try go_wp2
          replace HOz1 := Aside0.mk (Kd.R_drew HOz1.out)
          replace HOz2 := Aside0.mk (Kd.R_drew HOz2.out)
          replace HOz3 := Aside0.mk (Kd.R_drew HOz3.out)
          replace HOz4 := Aside0.mk (Kd.R_drew HOz4.out)
          replace HOz5 := Aside0.mk (Kd.R_drew HOz5.out)
          replace HOz6 := Aside0.mk (Kd.R_drew HOz6.out)
          replace HOz7 := Aside0.mk (Kd.R_drew HOz7.out)
          replace HB := Aside0.mk (below_drew1 HB.out)
          have hcvy1 := own_string (P := Try.prog) Try.underlying22 Try.underlying5 Try.underlying9 (Kd.own_of_R HOz2.out)
          refine start_ (n := 42) (S := fun w' => (convert 22 9 (vz2)).run Try.prog w' = .ok (.string (strOfNums t105)) w' ∧ (convert 22 9 (.slice Aoz2 t108.length coz2)).run Try.prog w' = .ok (.string (strOfNums t108)) w') (ds := []) (bm 42 0) (by kernel_rfl) rfl (by kernel_rfl) ⟨hcvy1, own_string (P := Try.prog) Try.underlying22 Try.underlying5 Try.underlying9 (Kd.own_of_R HOz3.out)⟩ (fun hHeld => ?_); refine with_tabW laws_FnTuples.tab9 laws_FnTuples.bits9 (fun HT_ HW_ => ?_)
          generalize wz7.drew = wy1 at HOz1 HOz2 HOz3 HOz4 HOz5 HOz6 HOz7 HB hHeld ⊢
          refine pZ 0 36 (bm 42 1) HT_.out ?_
          refine tZ 1 37 (bm 42 3) HT_.out HW_.out hHeld ?_
          refine pZ 2 38 (bm 42 7) HT_.out ?_
          refine oZ 3 (some 39) (bm 42 15) HT_.out (fun K hK => ?_)
          refine goesN Try.func44 #[.slice Aoz1 t102.length coz1] ?_
          with_reducible refine (spec_TupleBytes.calls k _ _ t102 t125 _ ?side1 ?side2 A21.out).mono ?_
          (case side1 => repeat (first | exact (Kd.R_reads' HOz1.out).2.2 | (with_reducible refine Kd.C_alloc ?_ _) | (with_reducible refine Kd.C_drewN ?_ _) | (with_reducible refine Kd.C_drew ?_)))
          (case side2 => exact (Kd.R_reads' HOz1.out).2.1)
          rintro e wy2 ⟨vy1, rfl, hoz1, hb⟩
          refine ⟨_, rfl, ?_⟩
          have HOy1 := Aside0.mk (Kd.R_lower (Kd.R_new' (Kd.R_new' hoz1 (Kd.R_lt (rX HOz2.out))) (Kd.R_lt (rX HOz3.out))) (below_size (hX HB.out)))
          replace HOz1 := Aside0.mk (Kd.R_below (rX HOz1.out) hb)
          replace HOz2 := Aside0.mk (Kd.R_elder' (rX HOz2.out) (Kd.R_base hoz1) hb)
          replace HOz3 := Aside0.mk (Kd.R_elder' (rX HOz3.out) (Kd.R_base hoz1) hb)
          replace HOz4 := Aside0.mk (Kd.R_below (rX HOz4.out) hb)
          replace HOz5 := Aside0.mk (Kd.R_below (rX HOz5.out) hb)
          replace HOz6 := Aside0.mk (Kd.R_below (rX HOz6.out) hb)
          replace HOz7 := Aside0.mk (Kd.R_below (rX HOz7.out) hb)
          replace HB := Aside0.mk (below_step (hX HB.out) hb)
          (try clear hb)
          (try clear hb2)
          (try clear hk)
          (try clear hi)
          (try clear hoz1)
          refine hK.out _ _ ⟨(by first | exact hHeld.1 | exact own_string (P := Try.prog) Try.underlying22 Try.underlying5 Try.underlying9 (Kd.own_of_R HOz2.out) | exact own_string (P := Try.prog) Try.underlying22 Try.underlying5 Try.underlying9 (Kd.own_of_R (rX HOz2.out))), (by first | exact hHeld.2 | exact own_string (P := Try.prog) Try.underlying22 Try.underlying5 Try.underlying9 (Kd.own_of_R HOz3.out) | exact own_string (P := Try.prog) Try.underlying22 Try.underlying5 Try.underlying9 (Kd.own_of_R (rX HOz3.out)))⟩ (fun hHeld => ?_)
          clear hK K
          refine nZ 39 ?_
          refine oZ 4 (some 40) (bm 42 31) HT_.out (fun K hK => ?_)
          have hcvy2 := own_string (P := Try.prog) Try.underlying22 Try.underlying5 Try.underlying9 (Kd.own_of_R HOy1.out)
          refine vZ ?_
          clear hcvy2
          refine hK.out _ _ ⟨(by first | exact hHeld.1 | exact own_string (P := Try.prog) Try.underlying22 Try.underlying5 Try.underlying9 (Kd.own_of_R HOz2.out) | exact own_string (P := Try.prog) Try.underlying22 Try.underlying5 Try.underlying9 (Kd.own_of_R (rX HOz2.out))), (by first | exact hHeld.2 | exact own_string (P := Try.prog) Try.underlying22 Try.underlying5 Try.underlying9 (Kd.own_of_R HOz3.out) | exact own_string (P := Try.prog) Try.underlying22 Try.underlying5 Try.underlying9 (Kd.own_of_R (rX HOz3.out)))⟩ (fun hHeld => ?_)
          clear hK K
          refine nZ 40 ?_
          refine pZ 5 41 (bm 42 63) HT_.out ?_
          refine pZ 6 42 (bm 42 127) HT_.out ?_
          refine pZ 7 43 (bm 42 255) HT_.out ?_
          refine pZ 8 44 (bm 42 511) HT_.out ?_
          refine pZ 9 45 (bm 42 1023) HT_.out ?_
          refine pZ 10 46 (bm 42 2047) HT_.out ?_
          refine pZ 11 47 (bm 42 4095) HT_.out ?_
          refine pU 12 48 (bm 42 8191) HT_.out ?_
          refine pU 13 49 (bm 42 16383) HT_.out ?_
          refine pU 14 50 (bm 42 32767) HT_.out ?_
          refine pU 15 51 (bm 42 65535) HT_.out ?_
          refine pZ 16 52 (bm 42 131071) HT_.out ?_
          refine pZ 17 53 (bm 42 262143) HT_.out ?_
          refine pU 18 54 (bm 42 524287) HT_.out ?_
          refine pU 19 55 (bm 42 1048575) HT_.out ?_
          refine pU 20 56 (bm 42 2097151) HT_.out ?_
          refine pU 21 57 (bm 42 4194303) HT_.out ?_
          refine pU 22 58 (bm 42 8388607) HT_.out ?_
          refine pZ 23 59 (bm 42 16777215) HT_.out ?_
          refine pZ 24 60 (bm 42 33554431) HT_.out ?_
          refine pU 25 61 (bm 42 67108863) HT_.out ?_
          refine pU 26 62 (bm 42 134217727) HT_.out ?_
          refine pU 27 63 (bm 42 268435455) HT_.out ?_
          refine pU 28 64 (bm 42 536870911) HT_.out ?_
          refine pU 29 65 (bm 42 1073741823) HT_.out ?_
          refine pZ 30 66 (bm 42 2147483647) HT_.out ?_
          refine pZ 31 67 (bm 42 4294967295) HT_.out ?_
          refine pU 32 68 (bm 42 8589934591) HT_.out ?_
          refine pU 33 69 (bm 42 17179869183) HT_.out ?_
          refine pU 34 70 (bm 42 34359738367) HT_.out ?_
          refine pU 35 71 (bm 42 68719476735) HT_.out ?_
          refine pU 36 72 (bm 42 137438953471) HT_.out ?_
          refine pU 37 73 (bm 42 274877906943) HT_.out ?_
          refine pU 38 74 (bm 42 549755813887) HT_.out ?_
          refine pU 39 75 (bm 42 1099511627775) HT_.out ?_
          refine pU 40 76 (bm 42 2199023255551) HT_.out ?_
          refine pZ 41 77 (bm 42 4398046511103) HT_.out ?_
          refine done_ (done_of HT_.out (by kernel_rfl)) ?_
          try go_wp2
          go_meet
          case rel => exact ⟨_, (true), rS, H', ⟨by first | omega | exact Nat.le_refl _⟩, ⟨(rT (h := by exact Kd.R_mono HOz1.out (fun _ hk => trivial)))⟩, ⟨(rT (h := by exact Kd.R_mono HOz2.out (fun _ hk => trivial)))⟩, ⟨(hX HB.out)⟩⟩
        · rw [if_neg c23] at H
          have c23b0 : (t114 != t116) = false := by simpa using c23
          (try (have c23b1 : decide (t114 = t116) = true := by simpa using c23))
          (try (have c23b2 : (t114 == t116) = true := by simpa using c23))
          clear c23
          replace H := bE H; obtain ⟨t128, A29, H⟩ := H
          by_cases c30 : t128 = true
          · subst c30
            rw [if_pos rfl] at H
            replace H := bE H; obtain ⟨t129, A31, H⟩ := H
            replace H := bE H; obtain ⟨t130, A32, H⟩ := H
            by_cases c33 : (t129 != t130) = true
            · rw [if_pos c33] at H
              have c33b0 : (t129 != t130) = true := c33
              (try (have c33b1 : decide (t129 = t130) = false := by simpa using c33))
              (try (have c33b2 : (t129 == t130) = false := by simpa using c33))
              (try (have c33b3 : ¬ (t129 = t130) := by simpa using c33))
              clear c33
              have H' := Aside0.mk H
              clear H
              obtain ⟨Aoy1, coy1, eoy1⟩ := Kd.R_slice HOz4.out
              subst eoy1
              obtain ⟨Aoy2, coy2, eoy2⟩ := Kd.R_slice HOz5.out
              subst eoy2
              obtain ⟨Aoy3, coy3, eoy3⟩ := Kd.R_slice HOz6.out
              subst eoy3
              try go_wp2
              replace HOz1 := Aside0.mk (Kd.R_drew HOz1.out)
              replace HOz2 := Aside0.mk (Kd.R_drew HOz2.out)
              replace HOz3 := Aside0.mk (Kd.R_drew HOz3.out)
              replace HOz4 := Aside0.mk (Kd.R_drew HOz4.out)
              replace HOz5 := Aside0.mk (Kd.R_drew HOz5.out)
              replace HOz6 := Aside0.mk (Kd.R_drew HOz6.out)
              replace HOz7 := Aside0.mk (Kd.R_drew HOz7.out)
              replace HB := Aside0.mk (below_drew1 HB.out)
              have hcvy1 := own_string (P := Try.prog) Try.underlying22 Try.underlying5 Try.underlying9 (Kd.own_of_R HOz2.out)
              refine start_ (n := 42) (S := fun w' => (convert 22 9 (vz2)).run Try.prog w' = .ok (.string (strOfNums t105)) w' ∧ (convert 22 9 (.slice Aoz2 t108.length coz2)).run Try.prog w' = .ok (.string (strOfNums t108)) w') (ds := []) (bm 42 0) (by kernel_rfl) rfl (by kernel_rfl) ⟨hcvy1, own_string (P := Try.prog) Try.underlying22 Try.underlying5 Try.underlying9 (Kd.own_of_R HOz3.out)⟩ (fun hHeld => ?_); refine with_tabW laws_FnTuples.tab9 laws_FnTuples.bits9 (fun HT_ HW_ => ?_)
              generalize wz7.drew = wy1 at HOz1 HOz2 HOz3 HOz4 HOz5 HOz6 HOz7 HB hHeld ⊢
              refine pZ 0 36 (bm 42 1) HT_.out ?_
              refine tZ 1 37 (bm 42 3) HT_.out HW_.out hHeld ?_
              refine pZ 2 38 (bm 42 7) HT_.out ?_
              refine oZ 3 (some 39) (bm 42 15) HT_.out (fun K hK => ?_)
              refine goesN Try.func44 #[.slice Aoz1 t102.length coz1] ?_
              with_reducible refine (spec_TupleBytes.calls k _ _ t102 t125 _ ?side1 ?side2 A21.out).mono ?_
              (case side1 => repeat (first | exact (Kd.R_reads' HOz1.out).2.2 | (with_reducible refine Kd.C_alloc ?_ _) | (with_reducible refine Kd.C_drewN ?_ _) | (with_reducible refine Kd.C_drew ?_)))
              (case side2 => exact (Kd.R_reads' HOz1.out).2.1)
              rintro e wy2 ⟨vy1, rfl, hoz1, hb⟩
              refine ⟨_, rfl, ?_⟩
              have HOy1 := Aside0.mk (Kd.R_lower (Kd.R_new' (Kd.R_new' hoz1 (Kd.R_lt (rX HOz2.out))) (Kd.R_lt (rX HOz3.out))) (below_size (hX HB.out)))
              replace HOz1 := Aside0.mk (Kd.R_below (rX HOz1.out) hb)
              replace HOz2 := Aside0.mk (Kd.R_elder' (rX HOz2.out) (Kd.R_base hoz1) hb)
              replace HOz3 := Aside0.mk (Kd.R_elder' (rX HOz3.out) (Kd.R_base hoz1) hb)
              replace HOz4 := Aside0.mk (Kd.R_below (rX HOz4.out) hb)
              replace HOz5 := Aside0.mk (Kd.R_below (rX HOz5.out) hb)
              replace HOz6 := Aside0.mk (Kd.R_below (rX HOz6.out) hb)
              replace HOz7 := Aside0.mk (Kd.R_below (rX HOz7.out) hb)
              replace HB := Aside0.mk (below_step (hX HB.out) hb)
              (try clear hb)
              (try clear hb2)
              (try clear hk)
              (try clear hi)
              (try clear hoz1)
              refine hK.out _ _ ⟨(by first | exact hHeld.1 | exact own_string (P := Try.prog) Try.underlying22 Try.underlying5 Try.underlying9 (Kd.own_of_R HOz2.out) | exact own_string (P := Try.prog) Try.underlying22 Try.underlying5 Try.underlying9 (Kd.own_of_R (rX HOz2.out))), (by first | exact hHeld.2 | exact own_string (P := Try.prog) Try.underlying22 Try.underlying5 Try.underlying9 (Kd.own_of_R HOz3.out) | exact own_string (P := Try.prog) Try.underlying22 Try.underlying5 Try.underlying9 (Kd.own_of_R (rX HOz3.out)))⟩ (fun hHeld => ?_)
              clear hK K
              refine nZ 39 ?_
              refine oZ 4 (some 40) (bm 42 31) HT_.out (fun K hK => ?_)
              have hcvy2 := own_string (P := Try.prog) Try.underlying22 Try.underlying5 Try.underlying9 (Kd.own_of_R HOy1.out)
              refine vZ ?_
              clear hcvy2
              refine hK.out _ _ ⟨(by first | exact hHeld.1 | exact own_string (P := Try.prog) Try.underlying22 Try.underlying5 Try.underlying9 (Kd.own_of_R HOz2.out) | exact own_string (P := Try.prog) Try.underlying22 Try.underlying5 Try.underlying9 (Kd.own_of_R (rX HOz2.out))), (by first | exact hHeld.2 | exact own_string (P := Try.prog) Try.underlying22 Try.underlying5 Try.underlying9 (Kd.own_of_R HOz3.out) | exact own_string (P := Try.prog) Try.underlying22 Try.underlying5 Try.underlying9 (Kd.own_of_R (rX HOz3.out)))⟩ (fun hHeld => ?_)
              clear hK K
              refine nZ 40 ?_
              refine pZ 5 41 (bm 42 63) HT_.out ?_
              refine pZ 6 42 (bm 42 127) HT_.out ?_
              refine pZ 7 43 (bm 42 255) HT_.out ?_
              refine pZ 8 44 (bm 42 511) HT_.out ?_
              refine pZ 9 45 (bm 42 1023) HT_.out ?_
              refine pZ 10 46 (bm 42 2047) HT_.out ?_
              refine pZ 11 47 (bm 42 4095) HT_.out ?_
              refine pZ 12 48 (bm 42 8191) HT_.out ?_
              refine pZ 13 49 (bm 42 16383) HT_.out ?_
              refine oZ 14 (some 50) (bm 42 32767) HT_.out (fun K hK => ?_)
              refine goesN Try.func15 #[.slice Aoy1 t111.length coy1, .slice Aoy2 t115.length coy2] ?_
              with_reducible refine (laws_sameTuple.calls k _ _ t111 _ _ t115 true _ ?side1 ?side2 ?side3 ?side4 A29.out).mono ?_
              (case side1 => repeat (first | exact (Kd.R_reads' HOz4.out).2.2 | (with_reducible refine Kd.C_alloc ?_ _) | (with_reducible refine Kd.C_drewN ?_ _) | (with_reducible refine Kd.C_drew ?_)))
              (case side2 => exact (Kd.R_reads' HOz4.out).2.1)
              (case side3 => repeat (first | exact (Kd.R_reads' HOz5.out).2.2 | (with_reducible refine Kd.C_alloc ?_ _) | (with_reducible refine Kd.C_drewN ?_ _) | (with_reducible refine Kd.C_drew ?_)))
              (case side4 => exact (Kd.R_reads' HOz5.out).2.1)
              rintro e w' ⟨rfl, ⟨nd, rfl⟩⟩
              refine ⟨_, rfl, ?_⟩
              refine hK.out _ _ ⟨(by first | exact hHeld.1 | exact own_string (P := Try.prog) Try.underlying22 Try.underlying5 Try.underlying9 (Kd.own_of_R HOz2.out) | exact own_string (P := Try.prog) Try.underlying22 Try.underlying5 Try.underlying9 (Kd.own_of_R (rX HOz2.out))), (by first | exact hHeld.2 | exact own_string (P := Try.prog) Try.underlying22 Try.underlying5 Try.underlying9 (Kd.own_of_R HOz3.out) | exact own_string (P := Try.prog) Try.underlying22 Try.underlying5 Try.underlying9 (Kd.own_of_R (rX HOz3.out)))⟩ (fun hHeld => ?_)
              clear hK K
              refine nZ 50 ?_
              refine pZ 15 51 (bm 42 65535) HT_.out ?_
              refine pZ 16 52 (bm 42 131071) HT_.out ?_
              refine pZ 17 53 (bm 42 262143) HT_.out ?_
              refine pZ 18 54 (bm 42 524287) HT_.out ?_
              refine pZ 20 56 (bm 42 1572863) HT_.out ?_
              refine oZ 19 (some 55) (bm 42 2097151) HT_.out (fun K hK => ?_)
              refine goesN Try.func13 #[.slice Aoy3 t119.length coy3] ?_
              with_reducible refine (impl_TupleOk.calls k _ _ t119 t129 _ ?side1 ?side2 A31.out).mono ?_
              (case side1 => repeat (first | exact (Kd.R_reads' HOz6.out).2.2 | (with_reducible refine Kd.C_alloc ?_ _) | (with_reducible refine Kd.C_drewN ?_ _) | (with_reducible refine Kd.C_drew ?_)))
              (case side2 => exact (Kd.R_reads' HOz6.out).2.1)
              rintro e wy3 ⟨rfl, hb⟩
              refine ⟨_, rfl, ?_⟩
              replace HOz1 := Aside0.mk (Kd.R_below (rX HOz1.out) hb)
              replace HOz2 := Aside0.mk (Kd.R_below (rX HOz2.out) hb)
              replace HOz3 := Aside0.mk (Kd.R_below (rX HOz3.out) hb)
              replace HOz4 := Aside0.mk (Kd.R_below (rX HOz4.out) hb)
              replace HOz5 := Aside0.mk (Kd.R_below (rX HOz5.out) hb)
              replace HOz6 := Aside0.mk (Kd.R_below (rX HOz6.out) hb)
              replace HOz7 := Aside0.mk (Kd.R_below (rX HOz7.out) hb)
              replace HOy1 := Aside0.mk (Kd.R_below (rX HOy1.out) hb)
              replace HB := Aside0.mk (below_step (hX HB.out) hb)
              (try clear hb)
              (try clear hb2)
              (try clear hk)
              (try clear hi)
              refine hK.out _ _ ⟨(by first | exact hHeld.1 | exact own_string (P := Try.prog) Try.underlying22 Try.underlying5 Try.underlying9 (Kd.own_of_R HOz2.out) | exact own_string (P := Try.prog) Try.underlying22 Try.underlying5 Try.underlying9 (Kd.own_of_R (rX HOz2.out))), (by first | exact hHeld.2 | exact own_string (P := Try.prog) Try.underlying22 Try.underlying5 Try.underlying9 (Kd.own_of_R HOz3.out) | exact own_string (P := Try.prog) Try.underlying22 Try.underlying5 Try.underlying9 (Kd.own_of_R (rX HOz3.out)))⟩ (fun hHeld => ?_)
              clear hK K
              refine nZ 55 ?_
              refine oZ 21 (some 57) (bm 42 4194303) HT_.out (fun K hK => ?_)
              refine goesN Try.func21 #[.slice Aoy3 t119.length coy3] ?_
              with_reducible refine (spec_TupleOk.calls k _ _ t119 t130 _ ?side1 ?side2 A32.out).mono ?_
              (case side1 => repeat (first | exact (Kd.R_reads' HOz6.out).2.2 | (with_reducible refine Kd.C_alloc ?_ _) | (with_reducible refine Kd.C_drewN ?_ _) | (with_reducible refine Kd.C_drew ?_)))
              (case side2 => exact (Kd.R_reads' HOz6.out).2.1)
              rintro e wy4 ⟨rfl, hb⟩
              refine ⟨_, rfl, ?_⟩
              replace HOz1 := Aside0.mk (Kd.R_below (rX HOz1.out) hb)
              replace HOz2 := Aside0.mk (Kd.R_below (rX HOz2.out) hb)
              replace HOz3 := Aside0.mk (Kd.R_below (rX HOz3.out) hb)
              replace HOz4 := Aside0.mk (Kd.R_below (rX HOz4.out) hb)
              replace HOz5 := Aside0.mk (Kd.R_below (rX HOz5.out) hb)
              replace HOz6 := Aside0.mk (Kd.R_below (rX HOz6.out) hb)
              replace HOz7 := Aside0.mk (Kd.R_below (rX HOz7.out) hb)
              replace HOy1 := Aside0.mk (Kd.R_below (rX HOy1.out) hb)
              replace HB := Aside0.mk (below_step (hX HB.out) hb)
              (try clear hb)
              (try clear hb2)
              (try clear hk)
              (try clear hi)
              refine hK.out _ _ ⟨(by first | exact hHeld.1 | exact own_string (P := Try.prog) Try.underlying22 Try.underlying5 Try.underlying9 (Kd.own_of_R HOz2.out) | exact own_string (P := Try.prog) Try.underlying22 Try.underlying5 Try.underlying9 (Kd.own_of_R (rX HOz2.out))), (by first | exact hHeld.2 | exact own_string (P := Try.prog) Try.underlying22 Try.underlying5 Try.underlying9 (Kd.own_of_R HOz3.out) | exact own_string (P := Try.prog) Try.underlying22 Try.underlying5 Try.underlying9 (Kd.own_of_R (rX HOz3.out)))⟩ (fun hHeld => ?_)
              clear hK K
              refine nZ 57 ?_
              refine pZ 22 58 (bm 42 8388607) HT_.out ?_
              refine pZ 23 59 (bm 42 16777215) HT_.out ?_
              refine pZ 24 60 (bm 42 33554431) HT_.out ?_
              refine pU 25 61 (bm 42 67108863) HT_.out ?_
              refine pU 26 62 (bm 42 134217727) HT_.out ?_
              refine pU 27 63 (bm 42 268435455) HT_.out ?_
              refine pU 28 64 (bm 42 536870911) HT_.out ?_
              refine pU 29 65 (bm 42 1073741823) HT_.out ?_
              refine pZ 30 66 (bm 42 2147483647) HT_.out ?_
              refine pZ 31 67 (bm 42 4294967295) HT_.out ?_
              refine pU 32 68 (bm 42 8589934591) HT_.out ?_
              refine pU 33 69 (bm 42 17179869183) HT_.out ?_
              refine pU 34 70 (bm 42 34359738367) HT_.out ?_
              refine pU 35 71 (bm 42 68719476735) HT_.out ?_
              refine pU 36 72 (bm 42 137438953471) HT_.out ?_
              refine pU 37 73 (bm 42 274877906943) HT_.out ?_
              refine pU 38 74 (bm 42 549755813887) HT_.out ?_
              refine pU 39 75 (bm 42 1099511627775) HT_.out ?_
              refine pU 40 76 (bm 42 2199023255551) HT_.out ?_
              refine pZ 41 77 (bm 42 4398046511103) HT_.out ?_
              refine done_ (done_of HT_.out (by kernel_rfl)) ?_
              try go_wp2
              go_meet
              case rel => exact ⟨_, (true), rS, H', ⟨by first | omega | exact Nat.le_refl _⟩, ⟨(rT (h := by exact Kd.R_mono HOz1.out (fun _ hk => trivial)))⟩, ⟨(rT (h := by exact Kd.R_mono HOz2.out (fun _ hk => trivial)))⟩, ⟨(hX HB.out)⟩⟩
            · rw [if_neg c33] at H
              have c33b0 : (t129 != t130) = false := by simpa using c33
              (try (have c33b1 : decide (t129 = t130) = true := by simpa using c33))
              (try (have c33b2 : (t129 == t130) = true := by simpa using c33))
              clear c33
              replace H := bE H; obtain ⟨t131, A44, H⟩ := H
              replace H := bE H; obtain ⟨t132, A45, H⟩ := H
              by_cases c46 : t131.toList = t132.toList
              · rw [if_pos c46] at H
                obtain ⟨c46b0, c46b1⟩ := eqT c46
                clear c46
                obtain ⟨Aoy1, coy1, eoy1⟩ := Kd.R_slice HOz4.out
                subst eoy1
                obtain ⟨Aoy2, coy2, eoy2⟩ := Kd.R_slice HOz5.out
                subst eoy2
                obtain ⟨Aoy3, coy3, eoy3⟩ := Kd.R_slice HOz6.out
                subst eoy3
                obtain ⟨Aoy4, coy4, eoy4⟩ := Kd.R_slice HOz7.out
                subst eoy4
                try go_wp2
                replace HOz1 := Aside0.mk (Kd.R_drew HOz1.out)
                replace HOz2 := Aside0.mk (Kd.R_drew HOz2.out)
                replace HOz3 := Aside0.mk (Kd.R_drew HOz3.out)
                replace HOz4 := Aside0.mk (Kd.R_drew HOz4.out)
                replace HOz5 := Aside0.mk (Kd.R_drew HOz5.out)
                replace HOz6 := Aside0.mk (Kd.R_drew HOz6.out)
                replace HOz7 := Aside0.mk (Kd.R_drew HOz7.out)
                replace HB := Aside0.mk (below_drew1 HB.out)
                have hcvy1 := own_string (P := Try.prog) Try.underlying22 Try.underlying5 Try.underlying9 (Kd.own_of_R HOz2.out)
                refine start_ (n := 42) (S := fun w' => (convert 22 9 (vz2)).run Try.prog w' = .ok (.string (strOfNums t105)) w' ∧ (convert 22 9 (.slice Aoz2 t108.length coz2)).run Try.prog w' = .ok (.string (strOfNums t108)) w') (ds := []) (bm 42 0) (by kernel_rfl) rfl (by kernel_rfl) ⟨hcvy1, own_string (P := Try.prog) Try.underlying22 Try.underlying5 Try.underlying9 (Kd.own_of_R HOz3.out)⟩ (fun hHeld => ?_); refine with_tabW laws_FnTuples.tab9 laws_FnTuples.bits9 (fun HT_ HW_ => ?_)
                generalize wz7.drew = wy1 at HOz1 HOz2 HOz3 HOz4 HOz5 HOz6 HOz7 HB hHeld ⊢
                refine pZ 0 36 (bm 42 1) HT_.out ?_
                refine tZ 1 37 (bm 42 3) HT_.out HW_.out hHeld ?_
                refine pZ 2 38 (bm 42 7) HT_.out ?_
                refine oZ 3 (some 39) (bm 42 15) HT_.out (fun K hK => ?_)
                refine goesN Try.func44 #[.slice Aoz1 t102.length coz1] ?_
                with_reducible refine (spec_TupleBytes.calls k _ _ t102 t125 _ ?side1 ?side2 A21.out).mono ?_
                (case side1 => repeat (first | exact (Kd.R_reads' HOz1.out).2.2 | (with_reducible refine Kd.C_alloc ?_ _) | (with_reducible refine Kd.C_drewN ?_ _) | (with_reducible refine Kd.C_drew ?_)))
                (case side2 => exact (Kd.R_reads' HOz1.out).2.1)
                rintro e wy2 ⟨vy1, rfl, hoz1, hb⟩
                refine ⟨_, rfl, ?_⟩
                have HOy1 := Aside0.mk (Kd.R_lower (Kd.R_new' (Kd.R_new' hoz1 (Kd.R_lt (rX HOz2.out))) (Kd.R_lt (rX HOz3.out))) (below_size (hX HB.out)))
                replace HOz1 := Aside0.mk (Kd.R_below (rX HOz1.out) hb)
                replace HOz2 := Aside0.mk (Kd.R_elder' (rX HOz2.out) (Kd.R_base hoz1) hb)
                replace HOz3 := Aside0.mk (Kd.R_elder' (rX HOz3.out) (Kd.R_base hoz1) hb)
                replace HOz4 := Aside0.mk (Kd.R_below (rX HOz4.out) hb)
                replace HOz5 := Aside0.mk (Kd.R_below (rX HOz5.out) hb)
                replace HOz6 := Aside0.mk (Kd.R_below (rX HOz6.out) hb)
                replace HOz7 := Aside0.mk (Kd.R_below (rX HOz7.out) hb)
                replace HB := Aside0.mk (below_step (hX HB.out) hb)
                (try clear hb)
                (try clear hb2)
                (try clear hk)
                (try clear hi)
                (try clear hoz1)
                refine hK.out _ _ ⟨(by first | exact hHeld.1 | exact own_string (P := Try.prog) Try.underlying22 Try.underlying5 Try.underlying9 (Kd.own_of_R HOz2.out) | exact own_string (P := Try.prog) Try.underlying22 Try.underlying5 Try.underlying9 (Kd.own_of_R (rX HOz2.out))), (by first | exact hHeld.2 | exact own_string (P := Try.prog) Try.underlying22 Try.underlying5 Try.underlying9 (Kd.own_of_R HOz3.out) | exact own_string (P := Try.prog) Try.underlying22 Try.underlying5 Try.underlying9 (Kd.own_of_R (rX HOz3.out)))⟩ (fun hHeld => ?_)
                clear hK K
                refine nZ 39 ?_
                refine oZ 4 (some 40) (bm 42 31) HT_.out (fun K hK => ?_)
                have hcvy2 := own_string (P := Try.prog) Try.underlying22 Try.underlying5 Try.underlying9 (Kd.own_of_R HOy1.out)
                refine vZ ?_
                clear hcvy2
                refine hK.out _ _ ⟨(by first | exact hHeld.1 | exact own_string (P := Try.prog) Try.underlying22 Try.underlying5 Try.underlying9 (Kd.own_of_R HOz2.out) | exact own_string (P := Try.prog) Try.underlying22 Try.underlying5 Try.underlying9 (Kd.own_of_R (rX HOz2.out))), (by first | exact hHeld.2 | exact own_string (P := Try.prog) Try.underlying22 Try.underlying5 Try.underlying9 (Kd.own_of_R HOz3.out) | exact own_string (P := Try.prog) Try.underlying22 Try.underlying5 Try.underlying9 (Kd.own_of_R (rX HOz3.out)))⟩ (fun hHeld => ?_)
                clear hK K
                refine nZ 40 ?_
                refine pZ 5 41 (bm 42 63) HT_.out ?_
                refine pZ 6 42 (bm 42 127) HT_.out ?_
                refine pZ 7 43 (bm 42 255) HT_.out ?_
                refine pZ 8 44 (bm 42 511) HT_.out ?_
                refine pZ 9 45 (bm 42 1023) HT_.out ?_
                refine pZ 10 46 (bm 42 2047) HT_.out ?_
                refine pZ 11 47 (bm 42 4095) HT_.out ?_
                refine pZ 12 48 (bm 42 8191) HT_.out ?_
                refine pZ 13 49 (bm 42 16383) HT_.out ?_
                refine oZ 14 (some 50) (bm 42 32767) HT_.out (fun K hK => ?_)
                refine goesN Try.func15 #[.slice Aoy1 t111.length coy1, .slice Aoy2 t115.length coy2] ?_
                with_reducible refine (laws_sameTuple.calls k _ _ t111 _ _ t115 true _ ?side1 ?side2 ?side3 ?side4 A29.out).mono ?_
                (case side1 => repeat (first | exact (Kd.R_reads' HOz4.out).2.2 | (with_reducible refine Kd.C_alloc ?_ _) | (with_reducible refine Kd.C_drewN ?_ _) | (with_reducible refine Kd.C_drew ?_)))
                (case side2 => exact (Kd.R_reads' HOz4.out).2.1)
                (case side3 => repeat (first | exact (Kd.R_reads' HOz5.out).2.2 | (with_reducible refine Kd.C_alloc ?_ _) | (with_reducible refine Kd.C_drewN ?_ _) | (with_reducible refine Kd.C_drew ?_)))
                (case side4 => exact (Kd.R_reads' HOz5.out).2.1)
                rintro e w' ⟨rfl, ⟨nd, rfl⟩⟩
                refine ⟨_, rfl, ?_⟩
                refine hK.out _ _ ⟨(by first | exact hHeld.1 | exact own_string (P := Try.prog) Try.underlying22 Try.underlying5 Try.underlying9 (Kd.own_of_R HOz2.out) | exact own_string (P := Try.prog) Try.underlying22 Try.underlying5 Try.underlying9 (Kd.own_of_R (rX HOz2.out))), (by first | exact hHeld.2 | exact own_string (P := Try.prog) Try.underlying22 Try.underlying5 Try.underlying9 (Kd.own_of_R HOz3.out) | exact own_string (P := Try.prog) Try.underlying22 Try.underlying5 Try.underlying9 (Kd.own_of_R (rX HOz3.out)))⟩ (fun hHeld => ?_)
                clear hK K
                refine nZ 50 ?_
                refine pZ 15 51 (bm 42 65535) HT_.out ?_
                refine pZ 16 52 (bm 42 131071) HT_.out ?_
                refine pZ 17 53 (bm 42 262143) HT_.out ?_
                refine pZ 18 54 (bm 42 524287) HT_.out ?_
                refine pZ 20 56 (bm 42 1572863) HT_.out ?_
                refine oZ 19 (some 55) (bm 42 2097151) HT_.out (fun K hK => ?_)
                refine goesN Try.func13 #[.slice Aoy3 t119.length coy3] ?_
                with_reducible refine (impl_TupleOk.calls k _ _ t119 t129 _ ?side1 ?side2 A31.out).mono ?_
                (case side1 => repeat (first | exact (Kd.R_reads' HOz6.out).2.2 | (with_reducible refine Kd.C_alloc ?_ _) | (with_reducible refine Kd.C_drewN ?_ _) | (with_reducible refine Kd.C_drew ?_)))
                (case side2 => exact (Kd.R_reads' HOz6.out).2.1)
                rintro e wy3 ⟨rfl, hb⟩
                refine ⟨_, rfl, ?_⟩
                replace HOz1 := Aside0.mk (Kd.R_below (rX HOz1.out) hb)
                replace HOz2 := Aside0.mk (Kd.R_below (rX HOz2.out) hb)
                replace HOz3 := Aside0.mk (Kd.R_below (rX HOz3.out) hb)
                replace HOz4 := Aside0.mk (Kd.R_below (rX HOz4.out) hb)
                replace HOz5 := Aside0.mk (Kd.R_below (rX HOz5.out) hb)
                replace HOz6 := Aside0.mk (Kd.R_below (rX HOz6.out) hb)
                replace HOz7 := Aside0.mk (Kd.R_below (rX HOz7.out) hb)
                replace HOy1 := Aside0.mk (Kd.R_below (rX HOy1.out) hb)
                replace HB := Aside0.mk (below_step (hX HB.out) hb)
                (try clear hb)
                (try clear hb2)
                (try clear hk)
                (try clear hi)
                refine hK.out _ _ ⟨(by first | exact hHeld.1 | exact own_string (P := Try.prog) Try.underlying22 Try.underlying5 Try.underlying9 (Kd.own_of_R HOz2.out) | exact own_string (P := Try.prog) Try.underlying22 Try.underlying5 Try.underlying9 (Kd.own_of_R (rX HOz2.out))), (by first | exact hHeld.2 | exact own_string (P := Try.prog) Try.underlying22 Try.underlying5 Try.underlying9 (Kd.own_of_R HOz3.out) | exact own_string (P := Try.prog) Try.underlying22 Try.underlying5 Try.underlying9 (Kd.own_of_R (rX HOz3.out)))⟩ (fun hHeld => ?_)
                clear hK K
                refine nZ 55 ?_
                refine oZ 21 (some 57) (bm 42 4194303) HT_.out (fun K hK => ?_)
                refine goesN Try.func21 #[.slice Aoy3 t119.length coy3] ?_
                with_reducible refine (spec_TupleOk.calls k _ _ t119 t130 _ ?side1 ?side2 A32.out).mono ?_
                (case side1 => repeat (first | exact (Kd.R_reads' HOz6.out).2.2 | (with_reducible refine Kd.C_alloc ?_ _) | (with_reducible refine Kd.C_drewN ?_ _) | (with_reducible refine Kd.C_drew ?_)))
                (case side2 => exact (Kd.R_reads' HOz6.out).2.1)
                rintro e wy4 ⟨rfl, hb⟩
                refine ⟨_, rfl, ?_⟩
                replace HOz1 := Aside0.mk (Kd.R_below (rX HOz1.out) hb)
                replace HOz2 := Aside0.mk (Kd.R_below (rX HOz2.out) hb)
                replace HOz3 := Aside0.mk (Kd.R_below (rX HOz3.out) hb)
                replace HOz4 := Aside0.mk (Kd.R_below (rX HOz4.out) hb)
                replace HOz5 := Aside0.mk (Kd.R_below (rX HOz5.out) hb)
                replace HOz6 := Aside0.mk (Kd.R_below (rX HOz6.out) hb)
                replace HOz7 := Aside0.mk (Kd.R_below (rX HOz7.out) hb)
                replace HOy1 := Aside0.mk (Kd.R_below (rX HOy1.out) hb)
                replace HB := Aside0.mk (below_step (hX HB.out) hb)
                (try clear hb)
                (try clear hb2)
                (try clear hk)
                (try clear hi)
                refine hK.out _ _ ⟨(by first | exact hHeld.1 | exact own_string (P := Try.prog) Try.underlying22 Try.underlying5 Try.underlying9 (Kd.own_of_R HOz2.out) | exact own_string (P := Try.prog) Try.underlying22 Try.underlying5 Try.underlying9 (Kd.own_of_R (rX HOz2.out))), (by first | exact hHeld.2 | exact own_string (P := Try.prog) Try.underlying22 Try.underlying5 Try.underlying9 (Kd.own_of_R HOz3.out) | exact own_string (P := Try.prog) Try.underlying22 Try.underlying5 Try.underlying9 (Kd.own_of_R (rX HOz3.out)))⟩ (fun hHeld => ?_)
                clear hK K
                refine nZ 57 ?_
                refine pZ 22 58 (bm 42 8388607) HT_.out ?_
                refine pZ 23 59 (bm 42 16777215) HT_.out ?_
                refine pZ 24 60 (bm 42 33554431) HT_.out ?_
                refine pZ 25 61 (bm 42 67108863) HT_.out ?_
                refine pZ 27 63 (bm 42 201326591) HT_.out ?_
                refine oZ 26 (some 62) (bm 42 268435455) HT_.out (fun K hK => ?_)
                refine goesN Try.func45 #[.slice Aoy4 t122.length coy4] ?_
                with_reducible refine (impl_TupleText.calls k _ _ t122 t131 _ ?side1 ?side2 A44.out).mono ?_
                (case side1 => repeat (first | exact (Kd.R_reads' HOz7.out).2.2 | (with_reducible refine Kd.C_alloc ?_ _) | (with_reducible refine Kd.C_drewN ?_ _) | (with_reducible refine Kd.C_drew ?_)))
                (case side2 => exact (Kd.R_reads' HOz7.out).2.1)
                rintro e wy5 ⟨rfl, hb⟩
                refine ⟨_, rfl, ?_⟩
                replace HOz1 := Aside0.mk (Kd.R_below (rX HOz1.out) hb)
                replace HOz2 := Aside0.mk (Kd.R_below (rX HOz2.out) hb)
                replace HOz3 := Aside0.mk (Kd.R_below (rX HOz3.out) hb)
                replace HOz4 := Aside0.mk (Kd.R_below (rX HOz4.out) hb)
                replace HOz5 := Aside0.mk (Kd.R_below (rX HOz5.out) hb)
                replace HOz6 := Aside0.mk (Kd.R_below (rX HOz6.out) hb)
                replace HOz7 := Aside0.mk (Kd.R_below (rX HOz7.out) hb)
                replace HOy1 := Aside0.mk (Kd.R_below (rX HOy1.out) hb)
                replace HB := Aside0.mk (below_step (hX HB.out) hb)
                (try clear hb)
                (try clear hb2)
                (try clear hk)
                (try clear hi)
                refine hK.out _ _ ⟨(by first | exact hHeld.1 | exact own_string (P := Try.prog) Try.underlying22 Try.underlying5 Try.underlying9 (Kd.own_of_R HOz2.out) | exact own_string (P := Try.prog) Try.underlying22 Try.underlying5 Try.underlying9 (Kd.own_of_R (rX HOz2.out))), (by first | exact hHeld.2 | exact own_string (P := Try.prog) Try.underlying22 Try.underlying5 Try.underlying9 (Kd.own_of_R HOz3.out) | exact own_string (P := Try.prog) Try.underlying22 Try.underlying5 Try.underlying9 (Kd.own_of_R (rX HOz3.out)))⟩ (fun hHeld => ?_)
                clear hK K
                refine nZ 62 ?_
                refine oZ 28 (some 64) (bm 42 536870911) HT_.out (fun K hK => ?_)
                refine goesN Try.func46 #[.slice Aoy4 t122.length coy4] ?_
                with_reducible refine (spec_TupleText.calls k _ _ t122 t132 _ ?side1 ?side2 A45.out).mono ?_
                (case side1 => repeat (first | exact (Kd.R_reads' HOz7.out).2.2 | (with_reducible refine Kd.C_alloc ?_ _) | (with_reducible refine Kd.C_drewN ?_ _) | (with_reducible refine Kd.C_drew ?_)))
                (case side2 => exact (Kd.R_reads' HOz7.out).2.1)
                rintro e wy6 ⟨rfl, hb⟩
                refine ⟨_, rfl, ?_⟩
                replace HOz1 := Aside0.mk (Kd.R_below (rX HOz1.out) hb)
                replace HOz2 := Aside0.mk (Kd.R_below (rX HOz2.out) hb)
                replace HOz3 := Aside0.mk (Kd.R_below (rX HOz3.out) hb)
                replace HOz4 := Aside0.mk (Kd.R_below (rX HOz4.out) hb)
                replace HOz5 := Aside0.mk (Kd.R_below (rX HOz5.out) hb)
                replace HOz6 := Aside0.mk (Kd.R_below (rX HOz6.out) hb)
                replace HOz7 := Aside0.mk (Kd.R_below (rX HOz7.out) hb)
                replace HOy1 := Aside0.mk (Kd.R_below (rX HOy1.out) hb)
                replace HB := Aside0.mk (below_step (hX HB.out) hb)
                (try clear hb)
                (try clear hb2)
                (try clear hk)
                (try clear hi)
                refine hK.out _ _ ⟨(by first | exact hHeld.1 | exact own_string (P := Try.prog) Try.underlying22 Try.underlying5 Try.underlying9 (Kd.own_of_R HOz2.out) | exact own_string (P := Try.prog) Try.underlying22 Try.underlying5 Try.underlying9 (Kd.own_of_R (rX HOz2.out))), (by first | exact hHeld.2 | exact own_string (P := Try.prog) Try.underlying22 Try.underlying5 Try.underlying9 (Kd.own_of_R HOz3.out) | exact own_string (P := Try.prog) Try.underlying22 Try.underlying5 Try.underlying9 (Kd.own_of_R (rX HOz3.out)))⟩ (fun hHeld => ?_)
                clear hK K
                refine nZ 64 ?_
                refine pZ 29 65 (bm 42 1073741823) HT_.out ?_
                refine pZ 30 66 (bm 42 2147483647) HT_.out ?_
                refine pZ 31 67 (bm 42 4294967295) HT_.out ?_
                refine pZ 32 68 (bm 42 8589934591) HT_.out ?_
                refine pZ 33 69 (bm 42 17179869183) HT_.out ?_
                by_cases c47 : t114 = true
                · subst c47
                  rw [if_pos rfl] at H
                  replace H := bE H; obtain ⟨t133, A48, H⟩ := H
                  have H' := Aside0.mk H
                  clear H
                  refine pZ 34 70 (bm 42 34359738367) HT_.out ?_
                  refine pZ 37 73 (bm 42 171798691839) HT_.out ?_
                  refine tZ 38 74 (bm 42 446676598783) HT_.out HW_.out hHeld ?_
                  refine oZ 35 (some 71) (bm 42 481036337151) HT_.out (fun K hK => ?_)
                  refine goesN Try.func14 #[.slice Aoy1 t111.length coy1] ?_
                  with_reducible refine (impl_TupleBytes.calls k _ _ t111 t133 _ ?side1 ?side2 A48.out).mono ?_
                  (case side1 => repeat (first | exact (Kd.R_reads' HOz4.out).2.2 | (with_reducible refine Kd.C_alloc ?_ _) | (with_reducible refine Kd.C_drewN ?_ _) | (with_reducible refine Kd.C_drew ?_)))
                  (case side2 => exact (Kd.R_reads' HOz4.out).2.1)
                  rintro e wy7 ⟨vy2, rfl, hoz1, hb⟩
                  refine ⟨_, rfl, ?_⟩
                  have HOy2 := Aside0.mk (Kd.R_lower (Kd.R_new' (Kd.R_new' (Kd.R_new' hoz1 (Kd.R_lt (rX HOz2.out))) (Kd.R_lt (rX HOz3.out))) (Kd.R_lt (rX HOy1.out))) (below_size (hX HB.out)))
                  replace HOz1 := Aside0.mk (Kd.R_below (rX HOz1.out) hb)
                  replace HOz2 := Aside0.mk (Kd.R_elder' (rX HOz2.out) (Kd.R_base hoz1) hb)
                  replace HOz3 := Aside0.mk (Kd.R_elder' (rX HOz3.out) (Kd.R_base hoz1) hb)
                  replace HOz4 := Aside0.mk (Kd.R_below (rX HOz4.out) hb)
                  replace HOz5 := Aside0.mk (Kd.R_below (rX HOz5.out) hb)
                  replace HOz6 := Aside0.mk (Kd.R_below (rX HOz6.out) hb)
                  replace HOz7 := Aside0.mk (Kd.R_below (rX HOz7.out) hb)
                  replace HOy1 := Aside0.mk (Kd.R_elder' (rX HOy1.out) (Kd.R_base hoz1) hb)
                  replace HB := Aside0.mk (below_step (hX HB.out) hb)
                  (try clear hb)
                  (try clear hb2)
                  (try clear hk)
                  (try clear hi)
                  (try clear hoz1)
                  have hcvy3 := own_string (P := Try.prog) Try.underlying22 Try.underlying5 Try.underlying9 (Kd.own_of_R HOz3.out)
                  refine hK.out _ _ ⟨(by first | exact hHeld.1 | exact own_string (P := Try.prog) Try.underlying22 Try.underlying5 Try.underlying9 (Kd.own_of_R HOz2.out) | exact own_string (P := Try.prog) Try.underlying22 Try.underlying5 Try.underlying9 (Kd.own_of_R (rX HOz2.out))), (by first | exact hHeld.2 | exact own_string (P := Try.prog) Try.underlying22 Try.underlying5 Try.underlying9 (Kd.own_of_R HOz3.out) | exact own_string (P := Try.prog) Try.underlying22 Try.underlying5 Try.underlying9 (Kd.own_of_R (rX HOz3.out)))⟩ (fun hHeld => ?_)
                  clear hK K
                  refine nZ 71 ?_
                  refine oZ 36 (some 72) (bm 42 549755813887) HT_.out (fun K hK => ?_)
                  have hcvy4 := own_string (P := Try.prog) Try.underlying22 Try.underlying5 Try.underlying9 (Kd.own_of_R HOy2.out)
                  refine vZ ?_
                  clear hcvy4
                  refine hK.out _ _ ⟨(by first | exact hHeld.1 | exact own_string (P := Try.prog) Try.underlying22 Try.underlying5 Try.underlying9 (Kd.own_of_R HOz2.out) | exact own_string (P := Try.prog) Try.underlying22 Try.underlying5 Try.underlying9 (Kd.own_of_R (rX HOz2.out))), (by first | exact hHeld.2 | exact own_string (P := Try.prog) Try.underlying22 Try.underlying5 Try.underlying9 (Kd.own_of_R HOz3.out) | exact own_string (P := Try.prog) Try.underlying22 Try.underlying5 Try.underlying9 (Kd.own_of_R (rX HOz3.out)))⟩ (fun hHeld => ?_)
                  clear hK K
                  refine nZ 72 ?_
                  refine pZ 39 75 (bm 42 1099511627775) HT_.out ?_
                  refine pZ 40 76 (bm 42 2199023255551) HT_.out ?_
                  refine pZ 41 77 (bm 42 4398046511103) HT_.out ?_
                  refine done_ (done_of HT_.out (by kernel_rfl)) ?_
                  try go_wp2
                  go_meet
                  case rel => exact ⟨_, (((strOfNums t133).toList != (strOfNums t108).toList)), rS, H', ⟨by first | omega | exact Nat.le_refl _⟩, ⟨(rT (h := by exact Kd.R_mono HOz1.out (fun _ hk => trivial)))⟩, ⟨(rT (h := by exact Kd.R_mono HOz2.out (fun _ hk => trivial)))⟩, ⟨(hX HB.out)⟩⟩
                · replace c47 := Bool.eq_false_iff.mpr c47
                  subst c47
                  rw [if_neg nft] at H
                  have H' := Aside0.mk H
                  clear H
                  refine pU 34 70 (bm 42 34359738367) HT_.out ?_
                  refine pU 35 71 (bm 42 68719476735) HT_.out ?_
                  refine pU 36 72 (bm 42 137438953471) HT_.out ?_
                  refine pU 37 73 (bm 42 274877906943) HT_.out ?_
                  refine pU 38 74 (bm 42 549755813887) HT_.out ?_
                  refine pU 39 75 (bm 42 1099511627775) HT_.out ?_
                  refine pZ 40 76 (bm 42 2199023255551) HT_.out ?_
                  refine pZ 41 77 (bm 42 4398046511103) HT_.out ?_
                  refine done_ (done_of HT_.out (by kernel_rfl)) ?_
                  try go_wp2
                  go_meet
                  case rel => exact ⟨_, (false), rS, H', ⟨by first | omega | exact Nat.le_refl _⟩, ⟨(rT (h := by exact Kd.R_mono HOz1.out (fun _ hk => trivial)))⟩, ⟨(rT (h := by exact Kd.R_mono HOz2.out (fun _ hk => trivial)))⟩, ⟨(hX HB.out)⟩⟩
              · rw [if_neg c46] at H
                obtain ⟨c46b0, c46b1⟩ := eqF c46
                have H' := Aside0.mk H
                clear H
                obtain ⟨Aoy1, coy1, eoy1⟩ := Kd.R_slice HOz4.out
                subst eoy1
                obtain ⟨Aoy2, coy2, eoy2⟩ := Kd.R_slice HOz5.out
                subst eoy2
                obtain ⟨Aoy3, coy3, eoy3⟩ := Kd.R_slice HOz6.out
                subst eoy3
                obtain ⟨Aoy4, coy4, eoy4⟩ := Kd.R_slice HOz7.out
                subst eoy4
                try go_wp2
                replace HOz1 := Aside0.mk (Kd.R_drew HOz1.out)
                replace HOz2 := Aside0.mk (Kd.R_drew HOz2.out)
                replace HOz3 := Aside0.mk (Kd.R_drew HOz3.out)
                replace HOz4 := Aside0.mk (Kd.R_drew HOz4.out)
                replace HOz5 := Aside0.mk (Kd.R_drew HOz5.out)
                replace HOz6 := Aside0.mk (Kd.R_drew HOz6.out)
                replace HOz7 := Aside0.mk (Kd.R_drew HOz7.out)
                replace HB := Aside0.mk (below_drew1 HB.out)
                have hcvy1 := own_string (P := Try.prog) Try.underlying22 Try.underlying5 Try.underlying9 (Kd.own_of_R HOz2.out)
                refine start_ (n := 42) (S := fun w' => (convert 22 9 (vz2)).run Try.prog w' = .ok (.string (strOfNums t105)) w' ∧ (convert 22 9 (.slice Aoz2 t108.length coz2)).run Try.prog w' = .ok (.string (strOfNums t108)) w') (ds := []) (bm 42 0) (by kernel_rfl) rfl (by kernel_rfl) ⟨hcvy1, own_string (P := Try.prog) Try.underlying22 Try.underlying5 Try.underlying9 (Kd.own_of_R HOz3.out)⟩ (fun hHeld => ?_); refine with_tabW laws_FnTuples.tab9 laws_FnTuples.bits9 (fun HT_ HW_ => ?_)
                generalize wz7.drew = wy1 at HOz1 HOz2 HOz3 HOz4 HOz5 HOz6 HOz7 HB hHeld ⊢
                refine pZ 0 36 (bm 42 1) HT_.out ?_
                refine tZ 1 37 (bm 42 3) HT_.out HW_.out hHeld ?_
                refine pZ 2 38 (bm 42 7) HT_.out ?_
                refine oZ 3 (some 39) (bm 42 15) HT_.out (fun K hK => ?_)
                refine goesN Try.func44 #[.slice Aoz1 t102.length coz1] ?_
                with_reducible refine (spec_TupleBytes.calls k _ _ t102 t125 _ ?side1 ?side2 A21.out).mono ?_
                (case side1 => repeat (first | exact (Kd.R_reads' HOz1.out).2.2 | (with_reducible refine Kd.C_alloc ?_ _) | (with_reducible refine Kd.C_drewN ?_ _) | (with_reducible refine Kd.C_drew ?_)))
                (case side2 => exact (Kd.R_reads' HOz1.out).2.1)
                rintro e wy2 ⟨vy1, rfl, hoz1, hb⟩
                refine ⟨_, rfl, ?_⟩
                have HOy1 := Aside0.mk (Kd.R_lower (Kd.R_new' (Kd.R_new' hoz1 (Kd.R_lt (rX HOz2.out))) (Kd.R_lt (rX HOz3.out))) (below_size (hX HB.out)))
                replace HOz1 := Aside0.mk (Kd.R_below (rX HOz1.out) hb)
                replace HOz2 := Aside0.mk (Kd.R_elder' (rX HOz2.out) (Kd.R_base hoz1) hb)
                replace HOz3 := Aside0.mk (Kd.R_elder' (rX HOz3.out) (Kd.R_base hoz1) hb)
                replace HOz4 := Aside0.mk (Kd.R_below (rX HOz4.out) hb)
                replace HOz5 := Aside0.mk (Kd.R_below (rX HOz5.out) hb)
                replace HOz6 := Aside0.mk (Kd.R_below (rX HOz6.out) hb)
                replace HOz7 := Aside0.mk (Kd.R_below (rX HOz7.out) hb)
                replace HB := Aside0.mk (below_step (hX HB.out) hb)
                (try clear hb)
                (try clear hb2)
                (try clear hk)
                (try clear hi)
                (try clear hoz1)
                refine hK.out _ _ ⟨(by first | exact hHeld.1 | exact own_string (P := Try.prog) Try.underlying22 Try.underlying5 Try.underlying9 (Kd.own_of_R HOz2.out) | exact own_string (P := Try.prog) Try.underlying22 Try.underlying5 Try.underlying9 (Kd.own_of_R (rX HOz2.out))), (by first | exact hHeld.2 | exact own_string (P := Try.prog) Try.underlying22 Try.underlying5 Try.underlying9 (Kd.own_of_R HOz3.out) | exact own_string (P := Try.prog) Try.underlying22 Try.underlying5 Try.underlying9 (Kd.own_of_R (rX HOz3.out)))⟩ (fun hHeld => ?_)
                clear hK K
                refine nZ 39 ?_
                refine oZ 4 (some 40) (bm 42 31) HT_.out (fun K hK => ?_)
                have hcvy2 := own_string (P := Try.prog) Try.underlying22 Try.underlying5 Try.underlying9 (Kd.own_of_R HOy1.out)
                refine vZ ?_
                clear hcvy2
                refine hK.out _ _ ⟨(by first | exact hHeld.1 | exact own_string (P := Try.prog) Try.underlying22 Try.underlying5 Try.underlying9 (Kd.own_of_R HOz2.out) | exact own_string (P := Try.prog) Try.underlying22 Try.underlying5 Try.underlying9 (Kd.own_of_R (rX HOz2.out))), (by first | exact hHeld.2 | exact own_string (P := Try.prog) Try.underlying22 Try.underlying5 Try.underlying9 (Kd.own_of_R HOz3.out) | exact own_string (P := Try.prog) Try.underlying22 Try.underlying5 Try.underlying9 (Kd.own_of_R (rX HOz3.out)))⟩ (fun hHeld => ?_)
                clear hK K
                refine nZ 40 ?_
                refine pZ 5 41 (bm 42 63) HT_.out ?_
                refine pZ 6 42 (bm 42 127) HT_.out ?_
                refine pZ 7 43 (bm 42 255) HT_.out ?_
                refine pZ 8 44 (bm 42 511) HT_.out ?_
                refine pZ 9 45 (bm 42 1023) HT_.out ?_
                refine pZ 10 46 (bm 42 2047) HT_.out ?_
                refine pZ 11 47 (bm 42 4095) HT_.out ?_
                refine pZ 12 48 (bm 42 8191) HT_.out ?_
                refine pZ 13 49 (bm 42 16383) HT_.out ?_
                refine oZ 14 (some 50) (bm 42 32767) HT_.out (fun K hK => ?_)
                refine goesN Try.func15 #[.slice Aoy1 t111.length coy1, .slice Aoy2 t115.length coy2] ?_
                with_reducible refine (laws_sameTuple.calls k _ _ t111 _ _ t115 true _ ?side1 ?side2 ?side3 ?side4 A29.out).mono ?_
                (case side1 => repeat (first | exact (Kd.R_reads' HOz4.out).2.2 | (with_reducible refine Kd.C_alloc ?_ _) | (with_reducible refine Kd.C_drewN ?_ _) | (with_reducible refine Kd.C_drew ?_)))
                (case side2 => exact (Kd.R_reads' HOz4.out).2.1)
                (case side3 => repeat (first | exact (Kd.R_reads' HOz5.out).2.2 | (with_reducible refine Kd.C_alloc ?_ _) | (with_reducible refine Kd.C_drewN ?_ _) | (with_reducible refine Kd.C_drew ?_)))
                (case side4 => exact (Kd.R_reads' HOz5.out).2.1)
                rintro e w' ⟨rfl, ⟨nd, rfl⟩⟩
                refine ⟨_, rfl, ?_⟩
                refine hK.out _ _ ⟨(by first | exact hHeld.1 | exact own_string (P := Try.prog) Try.underlying22 Try.underlying5 Try.underlying9 (Kd.own_of_R HOz2.out) | exact own_string (P := Try.prog) Try.underlying22 Try.underlying5 Try.underlying9 (Kd.own_of_R (rX HOz2.out))), (by first | exact hHeld.2 | exact own_string (P := Try.prog) Try.underlying22 Try.underlying5 Try.underlying9 (Kd.own_of_R HOz3.out) | exact own_string (P := Try.prog) Try.underlying22 Try.underlying5 Try.underlying9 (Kd.own_of_R (rX HOz3.out)))⟩ (fun hHeld => ?_)
                clear hK K
                refine nZ 50 ?_
                refine pZ 15 51 (bm 42 65535) HT_.out ?_
                refine pZ 16 52 (bm 42 131071) HT_.out ?_
                refine pZ 17 53 (bm 42 262143) HT_.out ?_
                refine pZ 18 54 (bm 42 524287) HT_.out ?_
                refine pZ 20 56 (bm 42 1572863) HT_.out ?_
                refine oZ 19 (some 55) (bm 42 2097151) HT_.out (fun K hK => ?_)
                refine goesN Try.func13 #[.slice Aoy3 t119.length coy3] ?_
                with_reducible refine (impl_TupleOk.calls k _ _ t119 t129 _ ?side1 ?side2 A31.out).mono ?_
                (case side1 => repeat (first | exact (Kd.R_reads' HOz6.out).2.2 | (with_reducible refine Kd.C_alloc ?_ _) | (with_reducible refine Kd.C_drewN ?_ _) | (with_reducible refine Kd.C_drew ?_)))
                (case side2 => exact (Kd.R_reads' HOz6.out).2.1)
                rintro e wy3 ⟨rfl, hb⟩
                refine ⟨_, rfl, ?_⟩
                replace HOz1 := Aside0.mk (Kd.R_below (rX HOz1.out) hb)
                replace HOz2 := Aside0.mk (Kd.R_below (rX HOz2.out) hb)
                replace HOz3 := Aside0.mk (Kd.R_below (rX HOz3.out) hb)
                replace HOz4 := Aside0.mk (Kd.R_below (rX HOz4.out) hb)
                replace HOz5 := Aside0.mk (Kd.R_below (rX HOz5.out) hb)
                replace HOz6 := Aside0.mk (Kd.R_below (rX HOz6.out) hb)
                replace HOz7 := Aside0.mk (Kd.R_below (rX HOz7.out) hb)
                replace HOy1 := Aside0.mk (Kd.R_below (rX HOy1.out) hb)
                replace HB := Aside0.mk (below_step (hX HB.out) hb)
                (try clear hb)
                (try clear hb2)
                (try clear hk)
                (try clear hi)
                refine hK.out _ _ ⟨(by first | exact hHeld.1 | exact own_string (P := Try.prog) Try.underlying22 Try.underlying5 Try.underlying9 (Kd.own_of_R HOz2.out) | exact own_string (P := Try.prog) Try.underlying22 Try.underlying5 Try.underlying9 (Kd.own_of_R (rX HOz2.out))), (by first | exact hHeld.2 | exact own_string (P := Try.prog) Try.underlying22 Try.underlying5 Try.underlying9 (Kd.own_of_R HOz3.out) | exact own_string (P := Try.prog) Try.underlying22 Try.underlying5 Try.underlying9 (Kd.own_of_R (rX HOz3.out)))⟩ (fun hHeld => ?_)
                clear hK K
                refine nZ 55 ?_
                refine oZ 21 (some 57) (bm 42 4194303) HT_.out (fun K hK => ?_)
                refine goesN Try.func21 #[.slice Aoy3 t119.length coy3] ?_
                with_reducible refine (spec_TupleOk.calls k _ _ t119 t130 _ ?side1 ?side2 A32.out).mono ?_
                (case side1 => repeat (first | exact (Kd.R_reads' HOz6.out).2.2 | (with_reducible refine Kd.C_alloc ?_ _) | (with_reducible refine Kd.C_drewN ?_ _) | (with_reducible refine Kd.C_drew ?_)))
                (case side2 => exact (Kd.R_reads' HOz6.out).2.1)
                rintro e wy4 ⟨rfl, hb⟩
                refine ⟨_, rfl, ?_⟩
                replace HOz1 := Aside0.mk (Kd.R_below (rX HOz1.out) hb)
                replace HOz2 := Aside0.mk (Kd.R_below (rX HOz2.out) hb)
                replace HOz3 := Aside0.mk (Kd.R_below (rX HOz3.out) hb)
                replace HOz4 := Aside0.mk (Kd.R_below (rX HOz4.out) hb)
                replace HOz5 := Aside0.mk (Kd.R_below (rX HOz5.out) hb)
                replace HOz6 := Aside0.mk (Kd.R_below (rX HOz6.out) hb)
                replace HOz7 := Aside0.mk (Kd.R_below (rX HOz7.out) hb)
                replace HOy1 := Aside0.mk (Kd.R_below (rX HOy1.out) hb)
                replace HB := Aside0.mk (below_step (hX HB.out) hb)
                (try clear hb)
                (try clear hb2)
                (try clear hk)
                (try clear hi)
                refine hK.out _ _ ⟨(by first | exact hHeld.1 | exact own_string (P := Try.prog) Try.underlying22 Try.underlying5 Try.underlying9 (Kd.own_of_R HOz2.out) | exact own_string (P := Try.prog) Try.underlying22 Try.underlying5 Try.underlying9 (Kd.own_of_R (rX HOz2.out))), (by first | exact hHeld.2 | exact own_string (P := Try.prog) Try.underlying22 Try.underlying5 Try.underlying9 (Kd.own_of_R HOz3.out) | exact own_string (P := Try.prog) Try.underlying22 Try.underlying5 Try.underlying9 (Kd.own_of_R (rX HOz3.out)))⟩ (fun hHeld => ?_)
                clear hK K
                refine nZ 57 ?_
                refine pZ 22 58 (bm 42 8388607) HT_.out ?_
                refine pZ 23 59 (bm 42 16777215) HT_.out ?_
                refine pZ 24 60 (bm 42 33554431) HT_.out ?_
                refine pZ 25 61 (bm 42 67108863) HT_.out ?_
                refine pZ 27 63 (bm 42 201326591) HT_.out ?_
                refine oZ 26 (some 62) (bm 42 268435455) HT_.out (fun K hK => ?_)
                refine goesN Try.func45 #[.slice Aoy4 t122.length coy4] ?_
                with_reducible refine (impl_TupleText.calls k _ _ t122 t131 _ ?side1 ?side2 A44.out).mono ?_
                (case side1 => repeat (first | exact (Kd.R_reads' HOz7.out).2.2 | (with_reducible refine Kd.C_alloc ?_ _) | (with_reducible refine Kd.C_drewN ?_ _) | (with_reducible refine Kd.C_drew ?_)))
                (case side2 => exact (Kd.R_reads' HOz7.out).2.1)
                rintro e wy5 ⟨rfl, hb⟩
                refine ⟨_, rfl, ?_⟩
                replace HOz1 := Aside0.mk (Kd.R_below (rX HOz1.out) hb)
                replace HOz2 := Aside0.mk (Kd.R_below (rX HOz2.out) hb)
                replace HOz3 := Aside0.mk (Kd.R_below (rX HOz3.out) hb)
                replace HOz4 := Aside0.mk (Kd.R_below (rX HOz4.out) hb)
                replace HOz5 := Aside0.mk (Kd.R_below (rX HOz5.out) hb)
                replace HOz6 := Aside0.mk (Kd.R_below (rX HOz6.out) hb)
                replace HOz7 := Aside0.mk (Kd.R_below (rX HOz7.out) hb)
                replace HOy1 := Aside0.mk (Kd.R_below (rX HOy1.out) hb)
                replace HB := Aside0.mk (below_step (hX HB.out) hb)
                (try clear hb)
                (try clear hb2)
                (try clear hk)
                (try clear hi)
                refine hK.out _ _ ⟨(by first | exact hHeld.1 | exact own_string (P := Try.prog) Try.underlying22 Try.underlying5 Try.underlying9 (Kd.own_of_R HOz2.out) | exact own_string (P := Try.prog) Try.underlying22 Try.underlying5 Try.underlying9 (Kd.own_of_R (rX HOz2.out))), (by first | exact hHeld.2 | exact own_string (P := Try.prog) Try.underlying22 Try.underlying5 Try.underlying9 (Kd.own_of_R HOz3.out) | exact own_string (P := Try.prog) Try.underlying22 Try.underlying5 Try.underlying9 (Kd.own_of_R (rX HOz3.out)))⟩ (fun hHeld => ?_)
                clear hK K
                refine nZ 62 ?_
                refine oZ 28 (some 64) (bm 42 536870911) HT_.out (fun K hK => ?_)
                refine goesN Try.func46 #[.slice Aoy4 t122.length coy4] ?_
                with_reducible refine (spec_TupleText.calls k _ _ t122 t132 _ ?side1 ?side2 A45.out).mono ?_
                (case side1 => repeat (first | exact (Kd.R_reads' HOz7.out).2.2 | (with_reducible refine Kd.C_alloc ?_ _) | (with_reducible refine Kd.C_drewN ?_ _) | (with_reducible refine Kd.C_drew ?_)))
                (case side2 => exact (Kd.R_reads' HOz7.out).2.1)
                rintro e wy6 ⟨rfl, hb⟩
                refine ⟨_, rfl, ?_⟩
                replace HOz1 := Aside0.mk (Kd.R_below (rX HOz1.out) hb)
                replace HOz2 := Aside0.mk (Kd.R_below (rX HOz2.out) hb)
                replace HOz3 := Aside0.mk (Kd.R_below (rX HOz3.out) hb)
                replace HOz4 := Aside0.mk (Kd.R_below (rX HOz4.out) hb)
                replace HOz5 := Aside0.mk (Kd.R_below (rX HOz5.out) hb)
                replace HOz6 := Aside0.mk (Kd.R_below (rX HOz6.out) hb)
                replace HOz7 := Aside0.mk (Kd.R_below (rX HOz7.out) hb)
                replace HOy1 := Aside0.mk (Kd.R_below (rX HOy1.out) hb)
                replace HB := Aside0.mk (below_step (hX HB.out) hb)
                (try clear hb)
                (try clear hb2)
                (try clear hk)
                (try clear hi)
                refine hK.out _ _ ⟨(by first | exact hHeld.1 | exact own_string (P := Try.prog) Try.underlying22 Try.underlying5 Try.underlying9 (Kd.own_of_R HOz2.out) | exact own_string (P := Try.prog) Try.underlying22 Try.underlying5 Try.underlying9 (Kd.own_of_R (rX HOz2.out))), (by first | exact hHeld.2 | exact own_string (P := Try.prog) Try.underlying22 Try.underlying5 Try.underlying9 (Kd.own_of_R HOz3.out) | exact own_string (P := Try.prog) Try.underlying22 Try.underlying5 Try.underlying9 (Kd.own_of_R (rX HOz3.out)))⟩ (fun hHeld => ?_)
                clear hK K
                refine nZ 64 ?_
                refine pZ 29 65 (bm 42 1073741823) HT_.out ?_
                refine pZ 30 66 (bm 42 2147483647) HT_.out ?_
                refine pZ 31 67 (bm 42 4294967295) HT_.out ?_
                refine pU 32 68 (bm 42 8589934591) HT_.out ?_
                refine pU 33 69 (bm 42 17179869183) HT_.out ?_
                refine pU 34 70 (bm 42 34359738367) HT_.out ?_
                refine pU 35 71 (bm 42 68719476735) HT_.out ?_
                refine pU 36 72 (bm 42 137438953471) HT_.out ?_
                refine pU 37 73 (bm 42 274877906943) HT_.out ?_
                refine pU 38 74 (bm 42 549755813887) HT_.out ?_
                refine pU 39 75 (bm 42 1099511627775) HT_.out ?_
                refine pU 40 76 (bm 42 2199023255551) HT_.out ?_
                refine pZ 41 77 (bm 42 4398046511103) HT_.out ?_
                refine done_ (done_of HT_.out (by kernel_rfl)) ?_
                try go_wp2
                go_meet
                case rel => exact ⟨_, (true), rS, H', ⟨by first | omega | exact Nat.le_refl _⟩, ⟨(rT (h := by exact Kd.R_mono HOz1.out (fun _ hk => trivial)))⟩, ⟨(rT (h := by exact Kd.R_mono HOz2.out (fun _ hk => trivial)))⟩, ⟨(hX HB.out)⟩⟩
          · replace c30 := Bool.eq_false_iff.mpr c30
            subst c30
            rw [if_neg nft] at H
            have H' := Aside0.mk H
            clear H
            obtain ⟨Aoy1, coy1, eoy1⟩ := Kd.R_slice HOz4.out
            subst eoy1
            obtain ⟨Aoy2, coy2, eoy2⟩ := Kd.R_slice HOz5.out
            subst eoy2
            try go_wp2
            replace HOz1 := Aside0.mk (Kd.R_drew HOz1.out)
            replace HOz2 := Aside0.mk (Kd.R_drew HOz2.out)
            replace HOz3 := Aside0.mk (Kd.R_drew HOz3.out)
            replace HOz4 := Aside0.mk (Kd.R_drew HOz4.out)
            replace HOz5 := Aside0.mk (Kd.R_drew HOz5.out)
            replace HOz6 := Aside0.mk (Kd.R_drew HOz6.out)
            replace HOz7 := Aside0.mk (Kd.R_drew HOz7.out)
            replace HB := Aside0.mk (below_drew1 HB.out)
            have hcvy1 := own_string (P := Try.prog) Try.underlying22 Try.underlying5 Try.underlying9 (Kd.own_of_R HOz2.out)
            refine start_ (n := 42) (S := fun w' => (convert 22 9 (vz2)).run Try.prog w' = .ok (.string (strOfNums t105)) w' ∧ (convert 22 9 (.slice Aoz2 t108.length coz2)).run Try.prog w' = .ok (.string (strOfNums t108)) w') (ds := []) (bm 42 0) (by kernel_rfl) rfl (by kernel_rfl) ⟨hcvy1, own_string (P := Try.prog) Try.underlying22 Try.underlying5 Try.underlying9 (Kd.own_of_R HOz3.out)⟩ (fun hHeld => ?_); refine with_tabW laws_FnTuples.tab9 laws_FnTuples.bits9 (fun HT_ HW_ => ?_)
            generalize wz7.drew = wy1 at HOz1 HOz2 HOz3 HOz4 HOz5 HOz6 HOz7 HB hHeld ⊢
            refine pZ 0 36 (bm 42 1) HT_.out ?_
            refine tZ 1 37 (bm 42 3) HT_.out HW_.out hHeld ?_
            refine pZ 2 38 (bm 42 7) HT_.out ?_
            refine oZ 3 (some 39) (bm 42 15) HT_.out (fun K hK => ?_)
            refine goesN Try.func44 #[.slice Aoz1 t102.length coz1] ?_
            with_reducible refine (spec_TupleBytes.calls k _ _ t102 t125 _ ?side1 ?side2 A21.out).mono ?_
            (case side1 => repeat (first | exact (Kd.R_reads' HOz1.out).2.2 | (with_reducible refine Kd.C_alloc ?_ _) | (with_reducible refine Kd.C_drewN ?_ _) | (with_reducible refine Kd.C_drew ?_)))
            (case side2 => exact (Kd.R_reads' HOz1.out).2.1)
            rintro e wy2 ⟨vy1, rfl, hoz1, hb⟩
            refine ⟨_, rfl, ?_⟩
            have HOy1 := Aside0.mk (Kd.R_lower (Kd.R_new' (Kd.R_new' hoz1 (Kd.R_lt (rX HOz2.out))) (Kd.R_lt (rX HOz3.out))) (below_size (hX HB.out)))
            replace HOz1 := Aside0.mk (Kd.R_below (rX HOz1.out) hb)
            replace HOz2 := Aside0.mk (Kd.R_elder' (rX HOz2.out) (Kd.R_base hoz1) hb)
            replace HOz3 := Aside0.mk (Kd.R_elder' (rX HOz3.out) (Kd.R_base hoz1) hb)
            replace HOz4 := Aside0.mk (Kd.R_below (rX HOz4.out) hb)
            replace HOz5 := Aside0.mk (Kd.R_below (rX HOz5.out) hb)
            replace HOz6 := Aside0.mk (Kd.R_below (rX HOz6.out) hb)
            replace HOz7 := Aside0.mk (Kd.R_below (rX HOz7.out) hb)
            replace HB := Aside0.mk (below_step (hX HB.out) hb)
            (try clear hb)
            (try clear hb2)
            (try clear hk)
            (try clear hi)
            (try clear hoz1)
            refine hK.out _ _ ⟨(by first | exact hHeld.1 | exact own_string (P := Try.prog) Try.underlying22 Try.underlying5 Try.underlying9 (Kd.own_of_R HOz2.out) | exact own_string (P := Try.prog) Try.underlying22 Try.underlying5 Try.underlying9 (Kd.own_of_R (rX HOz2.out))), (by first | exact hHeld.2 | exact own_string (P := Try.prog) Try.underlying22 Try.underlying5 Try.underlying9 (Kd.own_of_R HOz3.out) | exact own_string (P := Try.prog) Try.underlying22 Try.underlying5 Try.underlying9 (Kd.own_of_R (rX HOz3.out)))⟩ (fun hHeld => ?_)
            clear hK K
            refine nZ 39 ?_
            refine oZ 4 (some 40) (bm 42 31) HT_.out (fun K hK => ?_)
            have hcvy2 := own_string (P := Try.prog) Try.underlying22 Try.underlying5 Try.underlying9 (Kd.own_of_R HOy1.out)
            refine vZ ?_
            clear hcvy2
            refine hK.out _ _ ⟨(by first | exact hHeld.1 | exact own_string (P := Try.prog) Try.underlying22 Try.underlying5 Try.underlying9 (Kd.own_of_R HOz2.out) | exact own_string (P := Try.prog) Try.underlying22 Try.underlying5 Try.underlying9 (Kd.own_of_R (rX HOz2.out))), (by first | exact hHeld.2 | exact own_string (P := Try.prog) Try.underlying22 Try.underlying5 Try.underlying9 (Kd.own_of_R HOz3.out) | exact own_string (P := Try.prog) Try.underlying22 Try.underlying5 Try.underlying9 (Kd.own_of_R (rX HOz3.out)))⟩ (fun hHeld => ?_)
            clear hK K
            refine nZ 40 ?_
            refine pZ 5 41 (bm 42 63) HT_.out ?_
            refine pZ 6 42 (bm 42 127) HT_.out ?_
            refine pZ 7 43 (bm 42 255) HT_.out ?_
            refine pZ 8 44 (bm 42 511) HT_.out ?_
            refine pZ 9 45 (bm 42 1023) HT_.out ?_
            refine pZ 10 46 (bm 42 2047) HT_.out ?_
            refine pZ 11 47 (bm 42 4095) HT_.out ?_
            refine pZ 12 48 (bm 42 8191) HT_.out ?_
            refine pZ 13 49 (bm 42 16383) HT_.out ?_
            refine oZ 14 (some 50) (bm 42 32767) HT_.out (fun K hK => ?_)
            refine goesN Try.func15 #[.slice Aoy1 t111.length coy1, .slice Aoy2 t115.length coy2] ?_
            with_reducible refine (laws_sameTuple.calls k _ _ t111 _ _ t115 false _ ?side1 ?side2 ?side3 ?side4 A29.out).mono ?_
            (case side1 => repeat (first | exact (Kd.R_reads' HOz4.out).2.2 | (with_reducible refine Kd.C_alloc ?_ _) | (with_reducible refine Kd.C_drewN ?_ _) | (with_reducible refine Kd.C_drew ?_)))
            (case side2 => exact (Kd.R_reads' HOz4.out).2.1)
            (case side3 => repeat (first | exact (Kd.R_reads' HOz5.out).2.2 | (with_reducible refine Kd.C_alloc ?_ _) | (with_reducible refine Kd.C_drewN ?_ _) | (with_reducible refine Kd.C_drew ?_)))
            (case side4 => exact (Kd.R_reads' HOz5.out).2.1)
            rintro e w' ⟨rfl, ⟨nd, rfl⟩⟩
            refine ⟨_, rfl, ?_⟩
            refine hK.out _ _ ⟨(by first | exact hHeld.1 | exact own_string (P := Try.prog) Try.underlying22 Try.underlying5 Try.underlying9 (Kd.own_of_R HOz2.out) | exact own_string (P := Try.prog) Try.underlying22 Try.underlying5 Try.underlying9 (Kd.own_of_R (rX HOz2.out))), (by first | exact hHeld.2 | exact own_string (P := Try.prog) Try.underlying22 Try.underlying5 Try.underlying9 (Kd.own_of_R HOz3.out) | exact own_string (P := Try.prog) Try.underlying22 Try.underlying5 Try.underlying9 (Kd.own_of_R (rX HOz3.out)))⟩ (fun hHeld => ?_)
            clear hK K
            refine nZ 50 ?_
            refine pZ 15 51 (bm 42 65535) HT_.out ?_
            refine pZ 16 52 (bm 42 131071) HT_.out ?_
            refine pZ 17 53 (bm 42 262143) HT_.out ?_
            refine pU 18 54 (bm 42 524287) HT_.out ?_
            refine pU 19 55 (bm 42 1048575) HT_.out ?_
            refine pU 20 56 (bm 42 2097151) HT_.out ?_
            refine pU 21 57 (bm 42 4194303) HT_.out ?_
            refine pU 22 58 (bm 42 8388607) HT_.out ?_
            refine pZ 23 59 (bm 42 16777215) HT_.out ?_
            refine pZ 24 60 (bm 42 33554431) HT_.out ?_
            refine pU 25 61 (bm 42 67108863) HT_.out ?_
            refine pU 26 62 (bm 42 134217727) HT_.out ?_
            refine pU 27 63 (bm 42 268435455) HT_.out ?_
            refine pU 28 64 (bm 42 536870911) HT_.out ?_
            refine pU 29 65 (bm 42 1073741823) HT_.out ?_
            refine pZ 30 66 (bm 42 2147483647) HT_.out ?_
            refine pZ 31 67 (bm 42 4294967295) HT_.out ?_
            refine pU 32 68 (bm 42 8589934591) HT_.out ?_
            refine pU 33 69 (bm 42 17179869183) HT_.out ?_
            refine pU 34 70 (bm 42 34359738367) HT_.out ?_
            refine pU 35 71 (bm 42 68719476735) HT_.out ?_
            refine pU 36 72 (bm 42 137438953471) HT_.out ?_
            refine pU 37 73 (bm 42 274877906943) HT_.out ?_
            refine pU 38 74 (bm 42 549755813887) HT_.out ?_
            refine pU 39 75 (bm 42 1099511627775) HT_.out ?_
            refine pU 40 76 (bm 42 2199023255551) HT_.out ?_
            refine pZ 41 77 (bm 42 4398046511103) HT_.out ?_
            refine done_ (done_of HT_.out (by kernel_rfl)) ?_
            try go_wp2
            go_meet
            case rel => exact ⟨_, (true), rS, H', ⟨by first | omega | exact Nat.le_refl _⟩, ⟨(rT (h := by exact Kd.R_mono HOz1.out (fun _ hk => trivial)))⟩, ⟨(rT (h := by exact Kd.R_mono HOz2.out (fun _ hk => trivial)))⟩, ⟨(hX HB.out)⟩⟩
      · rw [if_neg c22] at H
        obtain ⟨c22b0, c22b1⟩ := eqF c22
        (first | rw [c22b0] | (simp only [i64_w, i32_w]; rw [c22b0]) | skip)
        have H' := Aside0.mk H
        clear H
        try go_wp2
        replace HOz1 := Aside0.mk (Kd.R_drew HOz1.out)
        replace HOz2 := Aside0.mk (Kd.R_drew HOz2.out)
        replace HOz3 := Aside0.mk (Kd.R_drew HOz3.out)
        replace HOz4 := Aside0.mk (Kd.R_drew HOz4.out)
        replace HOz5 := Aside0.mk (Kd.R_drew HOz5.out)
        replace HOz6 := Aside0.mk (Kd.R_drew HOz6.out)
        replace HOz7 := Aside0.mk (Kd.R_drew HOz7.out)
        replace HB := Aside0.mk (below_drew1 HB.out)
        have hcvy1 := own_string (P := Try.prog) Try.underlying22 Try.underlying5 Try.underlying9 (Kd.own_of_R HOz2.out)
        refine start_ (n := 42) (S := fun w' => (convert 22 9 (vz2)).run Try.prog w' = .ok (.string (strOfNums t105)) w' ∧ (convert 22 9 (.slice Aoz2 t108.length coz2)).run Try.prog w' = .ok (.string (strOfNums t108)) w') (ds := []) (bm 42 0) (by kernel_rfl) rfl (by kernel_rfl) ⟨hcvy1, own_string (P := Try.prog) Try.underlying22 Try.underlying5 Try.underlying9 (Kd.own_of_R HOz3.out)⟩ (fun hHeld => ?_); refine with_tabW laws_FnTuples.tab9 laws_FnTuples.bits9 (fun HT_ HW_ => ?_)
        generalize wz7.drew = wy1 at HOz1 HOz2 HOz3 HOz4 HOz5 HOz6 HOz7 HB hHeld ⊢
        refine pZ 0 36 (bm 42 1) HT_.out ?_
        refine tZ 1 37 (bm 42 3) HT_.out HW_.out hHeld ?_
        refine pZ 2 38 (bm 42 7) HT_.out ?_
        refine oZ 3 (some 39) (bm 42 15) HT_.out (fun K hK => ?_)
        refine goesN Try.func44 #[.slice Aoz1 t102.length coz1] ?_
        with_reducible refine (spec_TupleBytes.calls k _ _ t102 t125 _ ?side1 ?side2 A21.out).mono ?_
        (case side1 => repeat (first | exact (Kd.R_reads' HOz1.out).2.2 | (with_reducible refine Kd.C_alloc ?_ _) | (with_reducible refine Kd.C_drewN ?_ _) | (with_reducible refine Kd.C_drew ?_)))
        (case side2 => exact (Kd.R_reads' HOz1.out).2.1)
        rintro e wy2 ⟨vy1, rfl, hoz1, hb⟩
        refine ⟨_, rfl, ?_⟩
        have HOy1 := Aside0.mk (Kd.R_lower (Kd.R_new' (Kd.R_new' hoz1 (Kd.R_lt (rX HOz2.out))) (Kd.R_lt (rX HOz3.out))) (below_size (hX HB.out)))
        replace HOz1 := Aside0.mk (Kd.R_below (rX HOz1.out) hb)
        replace HOz2 := Aside0.mk (Kd.R_elder' (rX HOz2.out) (Kd.R_base hoz1) hb)
        replace HOz3 := Aside0.mk (Kd.R_elder' (rX HOz3.out) (Kd.R_base hoz1) hb)
        replace HOz4 := Aside0.mk (Kd.R_below (rX HOz4.out) hb)
        replace HOz5 := Aside0.mk (Kd.R_below (rX HOz5.out) hb)
        replace HOz6 := Aside0.mk (Kd.R_below (rX HOz6.out) hb)
        replace HOz7 := Aside0.mk (Kd.R_below (rX HOz7.out) hb)
        replace HB := Aside0.mk (below_step (hX HB.out) hb)
        (try clear hb)
        (try clear hb2)
        (try clear hk)
        (try clear hi)
        (try clear hoz1)
        refine hK.out _ _ ⟨(by first | exact hHeld.1 | exact own_string (P := Try.prog) Try.underlying22 Try.underlying5 Try.underlying9 (Kd.own_of_R HOz2.out) | exact own_string (P := Try.prog) Try.underlying22 Try.underlying5 Try.underlying9 (Kd.own_of_R (rX HOz2.out))), (by first | exact hHeld.2 | exact own_string (P := Try.prog) Try.underlying22 Try.underlying5 Try.underlying9 (Kd.own_of_R HOz3.out) | exact own_string (P := Try.prog) Try.underlying22 Try.underlying5 Try.underlying9 (Kd.own_of_R (rX HOz3.out)))⟩ (fun hHeld => ?_)
        clear hK K
        refine nZ 39 ?_
        refine oZ 4 (some 40) (bm 42 31) HT_.out (fun K hK => ?_)
        have hcvy2 := own_string (P := Try.prog) Try.underlying22 Try.underlying5 Try.underlying9 (Kd.own_of_R HOy1.out)
        refine vZ ?_
        clear hcvy2
        refine hK.out _ _ ⟨(by first | exact hHeld.1 | exact own_string (P := Try.prog) Try.underlying22 Try.underlying5 Try.underlying9 (Kd.own_of_R HOz2.out) | exact own_string (P := Try.prog) Try.underlying22 Try.underlying5 Try.underlying9 (Kd.own_of_R (rX HOz2.out))), (by first | exact hHeld.2 | exact own_string (P := Try.prog) Try.underlying22 Try.underlying5 Try.underlying9 (Kd.own_of_R HOz3.out) | exact own_string (P := Try.prog) Try.underlying22 Try.underlying5 Try.underlying9 (Kd.own_of_R (rX HOz3.out)))⟩ (fun hHeld => ?_)
        clear hK K
        refine nZ 40 ?_
        refine pZ 5 41 (bm 42 63) HT_.out ?_
        refine pZ 6 42 (bm 42 127) HT_.out ?_
        refine pU 7 43 (bm 42 255) HT_.out ?_
        refine pU 8 44 (bm 42 511) HT_.out ?_
        refine pU 9 45 (bm 42 1023) HT_.out ?_
        refine pZ 10 46 (bm 42 2047) HT_.out ?_
        refine pZ 11 47 (bm 42 4095) HT_.out ?_
        refine pU 12 48 (bm 42 8191) HT_.out ?_
        refine pU 13 49 (bm 42 16383) HT_.out ?_
        refine pU 14 50 (bm 42 32767) HT_.out ?_
        refine pU 15 51 (bm 42 65535) HT_.out ?_
        refine pZ 16 52 (bm 42 131071) HT_.out ?_
        refine pZ 17 53 (bm 42 262143) HT_.out ?_
        refine pU 18 54 (bm 42 524287) HT_.out ?_
        refine pU 19 55 (bm 42 1048575) HT_.out ?_
        refine pU 20 56 (bm 42 2097151) HT_.out ?_
        refine pU 21 57 (bm 42 4194303) HT_.out ?_
        refine pU 22 58 (bm 42 8388607) HT_.out ?_
        refine pZ 23 59 (bm 42 16777215) HT_.out ?_
        refine pZ 24 60 (bm 42 33554431) HT_.out ?_
        refine pU 25 61 (bm 42 67108863) HT_.out ?_
        refine pU 26 62 (bm 42 134217727) HT_.out ?_
        refine pU 27 63 (bm 42 268435455) HT_.out ?_
        refine pU 28 64 (bm 42 536870911) HT_.out ?_
        refine pU 29 65 (bm 42 1073741823) HT_.out ?_
        refine pZ 30 66 (bm 42 2147483647) HT_.out ?_
        refine pZ 31 67 (bm 42 4294967295) HT_.out ?_
        refine pU 32 68 (bm 42 8589934591) HT_.out ?_
        refine pU 33 69 (bm 42 17179869183) HT_.out ?_
        refine pU 34 70 (bm 42 34359738367) HT_.out ?_
        refine pU 35 71 (bm 42 68719476735) HT_.out ?_
        refine pU 36 72 (bm 42 137438953471) HT_.out ?_
        refine pU 37 73 (bm 42 274877906943) HT_.out ?_
        refine pU 38 74 (bm 42 549755813887) HT_.out ?_
        refine pU 39 75 (bm 42 1099511627775) HT_.out ?_
        refine pU 40 76 (bm 42 2199023255551) HT_.out ?_
        refine pZ 41 77 (bm 42 4398046511103) HT_.out ?_
        refine done_ (done_of HT_.out (by kernel_rfl)) ?_
        try go_wp2
        go_meet
        case rel => exact ⟨_, (true), rS, H', ⟨by first | omega | exact Nat.le_refl _⟩, ⟨(rT (h := by exact Kd.R_mono HOz1.out (fun _ hk => trivial)))⟩, ⟨(rT (h := by exact Kd.R_mono HOz2.out (fun _ hk => trivial)))⟩, ⟨(hX HB.out)⟩⟩
    case rest =>
      clear HC11
      try clear c1
      try clear hcv1
      try clear c2
      try clear p2
      try clear c4
      try clear hcv9
      try clear hcv10
      try clear c15
      try clear c22
      try clear c22b0
      try clear c22b1
      try clear c44
      try clear hcv96
      try clear hcv99
      try clear hcv101
      obtain ⟨kq, x77_10, rfl, HA, HJy1, HO_y1, HO_y2, HB⟩ := hcut
      cases kq with
      | zero => exact absurd HA.out (by simp [laws_FnTuples.j0])
      | succ kj10 =>
        have H := HA.out
        clear HA
        simp only [laws_FnTuples.j0] at H
        by_cases c103 : x77_10 = true
        · subst c103
          rw [if_pos rfl] at H
          obtain rfl := Option.some.inj H
          go_wp2
          go_ret
          exact ⟨rE, (hX HB.out)⟩
        · replace c103 := Bool.eq_false_iff.mpr c103
          subst c103
          rw [if_neg nft] at H
          replace H := bE H; obtain ⟨t136, A104, H⟩ := H
          by_cases c105 : t136 = true
          · subst c105
            rw [if_pos rfl] at H
            replace H := bE H; obtain ⟨⟨t137, t140⟩, A106, H⟩ := H
            try dsimp only at H
            go_wp2_with (first | ((with_reducible refine gate_callee (f := 13) rfl ?_); refine goesM 13 79 Try.func13 #[.slice Aoz1 t102.length coz1] ?_; refine (impl_TupleOk.calls kj10 _ _ t102 true _ (cX (Kd.R_reads' HO_y1.out).2.2) ((Kd.R_reads' HO_y1.out).2.1) A104.out).mono ?_; rintro e wx1 ⟨rfl, hb⟩; refine ⟨_, rfl, ?_⟩; replace HO_y1 := Aside0.mk (Kd.R_below (rX HO_y1.out) hb); replace HO_y2 := Aside0.mk (Kd.R_below (rX HO_y2.out) hb); replace HB := Aside0.mk (below_step (hX HB.out) hb); clear hb; obtain ⟨Aox1, cox1, eox1⟩ := Kd.R_slice HO_y2.out; subst eox1; refine Stop.out ?_))
            refine ⟨?_⟩
            by_cases c107 : t140 = true
            · subst c107
              rw [if_pos rfl] at H
              replace H := bE H; obtain ⟨t141, A108, H⟩ := H
              obtain rfl := Option.some.inj H
              go_wp2_with (first | ((with_reducible refine gate_callee (f := 40) rfl ?_); refine goesM 40 86 Try.func40 #[.slice Aox1 t105.length cox1] ?_; refine (impl_TupleOf.calls kj10 (fun k_ => some k_ = (.slice Aox1 t105.length cox1 : Value).ownBlock) _ _ t105 t137 true _ (by exact Kd.R_V (Kd.R_tight rfl (Kd.R_apart' (HO_y2.out) (Kd.R_typed HO_y1.out) (by decide)))) A106.out).mono ?_; rintro e wx2 ⟨vx1, rfl, hoz1, hb⟩; refine ⟨_, rfl, ?_⟩; have HOx1 := Aside0.mk (Kd.R_lower (Kd.R_new' (Kd.R_mono (ok' := fun k_ => True) hoz1 (fun _ hk_ => trivial)) (Kd.R_lt (rX HO_y1.out))) (below_size (hX HB.out))); replace HO_y1 := Aside0.mk (Kd.R_elder' (rX HO_y1.out) (Kd.R_base hoz1) hb); replace HO_y2 := Aside0.mk (Kd.R_below (rX HO_y2.out) hb); replace HB := Aside0.mk (below_step (hX HB.out) hb); clear hb hoz1; obtain ⟨Aox2, cox2, eox2⟩ := Kd.R_slice HOx1.out; subst eox2) | (go_at_call 15; (with_reducible refine (laws_sameTuple.calls kj10 _ _ t137 _ _ t102 t141 _ ?side1 ?side2 ?side3 ?side4 A108.out).mono ?_); (case side1 => repeat (first | exact (Kd.R_reads' HOx1.out).2.2 | (with_reducible refine Kd.C_alloc ?_ _) | (with_reducible refine Kd.C_drewN ?_ _) | (with_reducible refine Kd.C_drew ?_))); (case side2 => exact (Kd.R_reads' HOx1.out).2.1); (case side3 => repeat (first | exact (Kd.R_reads' HO_y1.out).2.2 | (with_reducible refine Kd.C_alloc ?_ _) | (with_reducible refine Kd.C_drewN ?_ _) | (with_reducible refine Kd.C_drew ?_))); (case side4 => exact (Kd.R_reads' HO_y1.out).2.1); rintro e w' ⟨rfl, ⟨nd, rfl⟩⟩))
              go_ret
              exact ⟨rE, (hX HB.out)⟩
            · replace c107 := Bool.eq_false_iff.mpr c107
              subst c107
              rw [if_neg nft] at H
              obtain rfl := Option.some.inj H
              go_wp2_with (first | ((with_reducible refine gate_callee (f := 40) rfl ?_); refine goesM 40 86 Try.func40 #[.slice Aox1 t105.length cox1] ?_; refine (impl_TupleOf.calls kj10 (fun k_ => some k_ = (.slice Aox1 t105.length cox1 : Value).ownBlock) _ _ t105 t137 false _ (by exact Kd.R_V (Kd.R_tight rfl (Kd.R_apart' (HO_y2.out) (Kd.R_typed HO_y1.out) (by decide)))) A106.out).mono ?_; rintro e wx2 ⟨vx1, rfl, hoz1, hb⟩; refine ⟨_, rfl, ?_⟩; have HOx1 := Aside0.mk (Kd.R_lower (Kd.R_new' (Kd.R_mono (ok' := fun k_ => True) hoz1 (fun _ hk_ => trivial)) (Kd.R_lt (rX HO_y1.out))) (below_size (hX HB.out))); replace HO_y1 := Aside0.mk (Kd.R_elder' (rX HO_y1.out) (Kd.R_base hoz1) hb); replace HO_y2 := Aside0.mk (Kd.R_below (rX HO_y2.out) hb); replace HB := Aside0.mk (below_step (hX HB.out) hb); clear hb hoz1))
              go_ret
              exact ⟨rE, (hX HB.out)⟩
          · replace c105 := Bool.eq_false_iff.mpr c105
            subst c105
            rw [if_neg nft] at H
            obtain rfl := Option.some.inj H
            go_wp2_with (first | (refine goesM 13 79 Try.func13 #[.slice Aoz1 t102.length coz1] ?_; refine (impl_TupleOk.calls kj10 _ _ t102 false _ (cX (Kd.R_reads' HO_y1.out).2.2) ((Kd.R_reads' HO_y1.out).2.1) A104.out).mono ?_; rintro e wx1 ⟨rfl, hb⟩; refine ⟨_, rfl, ?_⟩; replace HO_y1 := Aside0.mk (Kd.R_below (rX HO_y1.out) hb); replace HO_y2 := Aside0.mk (Kd.R_below (rX HO_y2.out) hb); replace HB := Aside0.mk (below_step (hX HB.out) hb); clear hb; obtain ⟨Aox1, cox1, eox1⟩ := Kd.R_slice HO_y2.out; subst eox1))
            go_ret
            exact ⟨rE, (hX HB.out)⟩
end Go.Proofs.Ytcedikpkbgofhaa.P2
namespace Go.Proofs.YtcedikpkbgofhaaZ
open Go.RowKit Go.Proofs.YtcedikpkbgofhaaW.PrintWords Go.Proofs.YtcedikpkbgofhaaW.PrintLast
def Opens {α : Type} (P : Program) (t : TypeId) (d : Kd α) (wf : α → Prop) : Prop :=
  ∀ (H : Type) (enc : TypeId × Value → H) (w : World) (fuel : Nat) (cs : List Value) (x : DataW H × List MemPlace),
    DataW.trod enc P w 0 (fun _ => true) true fuel t cs = some x → ∃ a, d.K w a cs ∧ wf a
theorem Opens.int {P : Program} {t : TypeId} {k : IntKind} (hu : P.underlying t = some (.int k)) : Opens P t (Kd.int k) (fun n => (Lit.int k n).wf = true) := by
  intro H enc w fuel cs x h
  obtain ⟨n, rfl, _, hw⟩ := DataW.trod_int hu h
  exact ⟨n, rfl, hw⟩
theorem Opens.bool {P : Program} {t : TypeId} (hu : P.underlying t = some .bool) : Opens P t Kd.bool (fun _ => True) := by
  intro H enc w fuel cs x h
  obtain ⟨n, rfl, _⟩ := DataW.trod_bool hu h
  exact ⟨n, rfl, trivial⟩
theorem Opens.string {P : Program} {t : TypeId} (hu : P.underlying t = some .string) : Opens P t Kd.string (fun s => s.size ≤ 9223372036854775807) := by
  intro H enc w fuel cs x h
  obtain ⟨n, rfl, _, hw⟩ := DataW.trod_string hu h
  exact ⟨n, rfl, by simpa [maxLen] using hw⟩
theorem exists_list {α : Type} (Q : Nat → α → Prop) : ∀ n, (∀ i, i < n → ∃ y, Q i y) → ∃ xs : List α, xs.length = n ∧ ∀ j p, xs[j]? = some p → Q j p
  | 0, _ => ⟨[], rfl, fun j p h => by simp at h⟩
  | n + 1, h => by
    obtain ⟨xs, hl, hx⟩ := exists_list Q n (fun i hi => h i (by omega))
    obtain ⟨y, hy⟩ := h n (by omega)
    refine ⟨xs ++ [y], by simp [hl], fun j p hj => ?_⟩
    by_cases hjn : j < n
    · rw [List.getElem?_append_left (by omega)] at hj
      exact hx j p hj
    · have hlt := (List.getElem?_eq_some_iff.1 hj).1
      rw [List.length_append, List.length_singleton, hl] at hlt
      obtain rfl : j = n := by omega
      rw [List.getElem?_append_right (by omega), hl, Nat.sub_self] at hj
      obtain rfl : y = p := by simpa using hj
      exact hy
theorem Opens.slice {α : Type} {P : Program} {t e : TypeId} {d : Kd α} {wf : α → Prop} (e' : Nat) (hu : P.underlying t = some (.slice e)) (hc : P.cellsOf e = d.sz) (he : Opens P e d wf) :
    Opens P t (Kd.slice e' d) (fun xs => xs.length ≤ 9223372036854775807 ∧ ∀ a ∈ xs, wf a) := by
  intro H enc w fuel cs x h
  rcases DataW.trod_slice hu h with ⟨rfl, _⟩ | ⟨a, len, cap, elems, rest, n, _, rfl, _, hb, hl, hm, hlen, hel, _, _⟩
  · exact ⟨[], ⟨none, 0, rfl, Nat.le_refl _, Kd.C_nil _ _⟩, by simp⟩
  · have each : ∀ i, i < len → ∃ y, wf y ∧ ∃ c, c.length = d.sz ∧ d.K w y c ∧ ∀ j u, c[j]? = some u → w.cell? (a.add (i * d.sz + j)) = some u := by
      intro i hi
      have h1 := hel i hi
      rw [List.getElem?_eq_getElem (by omega), hc, Option.bind_eq_some_iff] at h1
      obtain ⟨c, hcs, hy⟩ := h1
      obtain ⟨y, hK, hw⟩ := he _ _ _ _ _ _ hy
      refine ⟨y, hw, c, d.K_len hK, hK, fun j u hj => ?_⟩
      have h2 := World.cells?_some hcs
      rw [← Addr.add_add]
      have hjl := (List.getElem?_eq_some_iff.1 hj).1
      rw [← hj]
      exact (h2.2.2 j (by rw [← h2.2.1]; exact hjl))
    obtain ⟨xs, hxl, hxs⟩ := exists_list _ len each
    simp only [maxLen] at hm
    refine ⟨xs, ⟨some a, cap, by rw [hxl], by omega, rfl, by omega, fun _ => ⟨a, rfl, fun j p hj => ?_⟩⟩, by omega, fun y hy => ?_⟩
    · obtain ⟨_, c, hcl, hK, hcell⟩ := hxs j p hj
      exact ⟨c, hcl, hK, hcell⟩
    · obtain ⟨j, hj⟩ := List.getElem?_of_mem hy
      exact (hxs j y hj).1
def OpensF {α : Type} (P : Program) (fs : Array Field) (o : Nat) (d : Kd α) (wf : α → Prop) : Prop :=
  ∀ (H : Type) (enc : TypeId × Value → H) (w : World) (fuel : Nat) (cs : List Value) (xs : List (DataW H × List MemPlace)), cs.length = o + d.sz → xs.length = fs.size →
    (∀ (j : Nat) (f : Field), fs[j]? = some f → DataW.trod enc P w 0 (fun _ => true) true fuel f.type ((cs.drop f.offset).take (P.cellsOf f.type)) = xs[j]?) → ∃ a, d.K w a (cs.drop o) ∧ wf a
theorem OpensF.cons {α β : Type} {P : Program} {fs : Array Field} {o : Nat} {d : Kd α} {d' : Kd β} {wf : α → Prop} {wf' : β → Prop} (i : Nat) (f : Field) (hf : fs[i]? = some f) (ho : f.offset = o) (hc : P.cellsOf f.type = d.sz) (h : Opens P f.type d wf)
    (h' : OpensF P fs (o + d.sz) d' wf') : OpensF P fs o (Kd.pair d d') (fun x => wf x.1 ∧ wf' x.2) := by
  intro H enc w fuel cs xs hl hx hall
  have h1 := hall i f hf
  have hi : i < xs.length := by rw [hx]; exact (Array.getElem?_eq_some_iff.1 hf).1
  rw [List.getElem?_eq_getElem hi, ho, hc] at h1
  obtain ⟨a, hK, hw⟩ := h _ _ _ _ _ _ h1
  have hl' : cs.length = o + (d.sz + d'.sz) := hl
  obtain ⟨b, hK', hw'⟩ := h' H enc w fuel cs xs (by omega) hx hall
  refine ⟨(a, b), ⟨_, _, ?_, hK, hK'⟩, hw, hw'⟩
  rw [← List.drop_drop, List.take_append_drop]
theorem Opens.struct {α β : Type} {P : Program} {t : TypeId} {fs : Array Field} {d : Kd α} {wf : α → Prop} (f : β → α) (g : α → β) (hfg : ∀ a, f (g a) = a) (hu : P.underlying t = some (.struct fs)) (hc : P.cellsOf t = d.sz) (h : OpensF P fs 0 d wf) :
    Opens P t (Kd.iso d f) (fun b => wf (f b)) := by
  intro H enc w fuel cs x hx
  obtain ⟨xs, n, _, _, hl, hxl, hall⟩ := DataW.trod_struct hu hx
  obtain ⟨a, hK, hw⟩ := h H enc w n cs xs (by omega) hxl hall
  refine ⟨g a, ?_, ?_⟩
  · show d.K w (f (g a)) cs
    rw [hfg]; exact hK
  · show wf (f (g a))
    rw [hfg]; exact hw
theorem Opens.param {α : Type} {P : Program} {t : TypeId} {d : Kd α} {wf : α → Prop} (h : Opens P t d wf) {H : Type} {enc : TypeId × Value → H} {w : World} {v : Value} {D : DataW H} {ps : List MemPlace} (hv : DataW.Trod enc P w 0 (fun _ => true) true t v D ps) :
    ∃ a, d.K w a v.cells.toList ∧ wf a := by
  obtain ⟨fuel, hf⟩ := hv
  exact h _ _ _ _ _ _ hf
end Go.Proofs.YtcedikpkbgofhaaZ
namespace Go.Proofs.Ytcedikpkbgofhaa.P2
open Go.RowKit Go.Proofs.YtcedikpkbgofhaaW.PrintWords Go.Proofs.YtcedikpkbgofhaaW.PrintLast Go.Proofs.YtcedikpkbgofhaaZ
def PureFnTuples : Prop := ∀ (x0 : List Int), (x0.length ≤ 9223372036854775807 ∧ ∀ y ∈ x0, (Lit.int .u8 y).wf = true) → ∃ k, laws_FnTuples.f k x0 = some true
end Go.Proofs.Ytcedikpkbgofhaa.P2
namespace Go.Proofs.YtcedikpkbgofhaaW.PrintWords
section
variable {α : Type}
theorem Ev.shift {g : Nat → Option α} {r : α} (h : Ev (fun k => g (k + 1)) r) : Ev g r := Ev.step (fun _ => rfl) h
theorem Ev.val {a r : α} (h : a = r) : Ev (fun _ => some a) r := by subst h; exact Ev.now _
theorem Ev.to {g : Nat → Option α} {a r : α} (h : Ev g a) (e : a = r) : Ev g r := e ▸ h
theorem Ev.pos {p : Prop} [Decidable p] {g f : Nat → Option α} {r : α} (h : p) (hg : Ev g r) : Ev (fun k => if p then g k else f k) r := by
  simp only [if_pos h]; exact hg
theorem Ev.neg {p : Prop} [Decidable p] {g f : Nat → Option α} {r : α} (h : ¬ p) (hf : Ev f r) : Ev (fun k => if p then g k else f k) r := by
  simp only [if_neg h]; exact hf
end
end Go.Proofs.YtcedikpkbgofhaaW.PrintWords
namespace Go.Proofs.YtcedikpkbgofhaaZ
open Go.RowKit Go.Proofs.YtcedikpkbgofhaaW.PrintWords
theorem back {n : Nat} {Q : Nat → Prop} (hn : Q n) (hs : ∀ i, i < n → Q (i + 1) → Q i) : ∀ i, i ≤ n → Q i := by
  intro i hi
  obtain ⟨d, rfl⟩ : ∃ d, n = i + d := ⟨n - i, by omega⟩
  clear hi
  induction d generalizing i with
  | zero => exact hn
  | succ d ih =>
    refine hs i (by omega) (ih (i + 1) ?_ ?_)
    · rw [show i + 1 + d = i + (d + 1) by omega]; exact hn
    · intro j hj; exact hs j (by omega)
theorem w64 {n : Int} (h1 : -9223372036854775808 ≤ n) (h2 : n < 9223372036854775808) : wrap64 n = n := by unfold wrap64; omega
theorem w32 {n : Int} (h1 : -2147483648 ≤ n) (h2 : n < 2147483648) : wrap32 n = n := by unfold wrap32; omega
theorem succ64 {i n : Nat} (h : i < n) (hn : n ≤ 9223372036854775807) : wrap64 ((i : Int) + 1) = ((i + 1 : Nat) : Int) := by
  rw [w64 (by omega) (by omega)]; simp
section
variable {τ σ : Type}
theorem getD_get {xs : List τ} {i : Nat} {x d : τ} (h : xs[i]? = some x) : xs.getD ((i : Int)).toNat d = x := by
  rw [Int.toNat_natCast, List.getD_eq_getElem?_getD, h]; rfl
end
theorem rd_get {xs : List Int} {i : Nat} {x : Int} (h : xs[i]? = some x) : rd xs i = x := getD_get h
end Go.Proofs.YtcedikpkbgofhaaZ
namespace Go.Proofs.Ytcedikpkbgofhaa.P2
abbrev iV := S37
end Go.Proofs.Ytcedikpkbgofhaa.P2
namespace Go.Proofs.Ytcedikpkbgofhaa.P2
open Go.RowKit Go.Proofs.YtcedikpkbgofhaaW.PrintWords Go.Proofs.YtcedikpkbgofhaaW.PrintLast Go.Proofs.YtcedikpkbgofhaaZ
def okV (a : iV) : Bool := (a.f0 == 0 && a.f1 == 0 && a.f2.size == 0) || (a.f0 == 1 && decide (0 ≤ a.f1 ∧ a.f1 ≤ 1) && a.f2.size == 0) || (a.f0 == 2 && decide (-1000000000000 ≤ a.f1 ∧ a.f1 ≤ 1000000000000) && a.f2.size == 0) || (a.f0 == 3 && a.f1 == 0 && decide (a.f2.size ≤ 20))
theorem ba_nil (s : ByteArray) : (s.toList == ([] : List UInt8)) = (s.size == 0) := by
  rw [ByteArray.toList_eq, Bool.eq_iff_iff]
  simp only [beq_iff_eq]
  constructor
  · intro h; show s.data.size = 0; rw [← Array.length_toList, h]; rfl
  · intro h; apply List.eq_nil_of_length_eq_zero; rw [Array.length_toList]; exact h
theorem spec_ValueOk_eq (a : iV) : spec_ValueOk.f a.f0 a.f1 a.f2 = some (okV a) := by
  simp only [spec_ValueOk.f, spec_l1In.f, okV, ba_nil]
  by_cases h0 : a.f0 = 0
  · by_cases h1 : a.f1 = 0 <;> simp [h0, h1]
  · by_cases h1 : a.f0 = 1
    · by_cases h2 : a.f1 ≥ 0 <;> by_cases h3 : a.f1 ≤ 1 <;> simp [h0, h1, h2, h3]
    · by_cases h2 : a.f0 = 2
      · by_cases h4 : a.f1 ≥ (-1000000000000) <;> by_cases h3 : a.f1 ≤ 1000000000000 <;> simp [h0, h1, h2, h3, h4]
      · by_cases h3 : a.f0 = 3
        · by_cases h4 : a.f1 = 0
          · simp [h3, h4]; omega
          · simp [h3, h4]
        · simp [h0, h1, h2, h3]
theorem impl_ValueOk_eq (a : iV) : impl_ValueOk.f a.f0 a.f1 a.f2 = some (okV a) := spec_ValueOk_eq a
theorem rdV_at {l : List iV} {i : Nat} (h : i < l.length) : rd_T37 l (i : Int) = l[i] := getD_get (List.getElem?_eq_getElem h)
theorem drop_at {α : Type _} {l : List α} {i : Nat} (h : i < l.length) : l.drop i = l[i] :: l.drop (i + 1) := List.drop_eq_getElem_cons h
def okT (x : List iV) : Bool := x.all okV && decide (x.length ≤ 4)
theorem spec_TupleOk_ev (x : List iV) (hx : x.length ≤ 9223372036854775807) : Ev (fun k => spec_TupleOk.f k x) (okT x) := by
  simp only [spec_TupleOk.f]
  refine (back (n := x.length) (Q := fun i => Ev (fun k => spec_TupleOk.l0 k x (i : Int)) ((x.drop i).all okV && decide (x.length ≤ 4))) ?_ (fun i hi ih => ?_) 0 (Nat.zero_le _))
  · refine Ev.shift ?_
    simp only [spec_TupleOk.l0, Int.lt_irrefl, if_false, List.drop_length, List.all_nil, Bool.true_and]
    exact Ev.val (by congr 1; simp; omega)
  · have h0 : (0 : Int) ≤ (i : Int) := by omega
    have h1 : (i : Int) < (x.length : Int) := by omega
    refine Ev.shift ?_
    rw [drop_at hi]
    simp only [spec_TupleOk.l0, h0, h1, if_true, rdV_at hi, spec_ValueOk_eq, Option.bind_some, List.all_cons]
    cases h : okV x[i]
    · simp only [Bool.false_eq_true, if_false, Bool.false_and]; exact Ev.now _
    · simp only [if_true, Bool.true_and, succ64 hi hx]; exact ih
theorem impl_TupleOk_ev (x : List iV) (hx : x.length ≤ 9223372036854775807) : Ev (fun k => impl_TupleOk.f k x) (okT x) := by
  simp only [impl_TupleOk.f, okT]
  by_cases hl : x.length ≤ 4
  · have hl2 : (x.length : Int) ≤ 4 := by omega
    simp only [hl, hl2, if_true, decide_true, Bool.and_true]
    have key : ∀ i : Nat, i ≤ x.length → ∃ r : Int, Ev (fun k => impl_Value_82_54.l0 k x (x.length : Int) (i : Int)) r ∧ decide (r ≥ 0) = !((x.drop i).all okV) := by
      refine back ⟨-1, ?_, by simp⟩ fun i hi ih => ?_
      · refine Ev.shift ?_
        simp only [impl_Value_82_54.l0, Int.lt_irrefl, if_false]
        exact Ev.now _
      · obtain ⟨r, h, e⟩ := ih
        have h0 : (0 : Int) ≤ (i : Int) := by omega
        have h1 : (i : Int) < (x.length : Int) := by omega
        cases h2 : okV x[i]
        · refine ⟨i, Ev.shift ?_, ?_⟩
          · simp only [impl_Value_82_54.l0, impl_TupleOk_1.f, h0, h1, if_true, rdV_at hi, impl_ValueOk_eq, Option.bind_some, h2, Bool.not_false]
            exact Ev.now _
          · rw [drop_at hi, List.all_cons, h2]; simp
        · refine ⟨r, Ev.shift ?_, ?_⟩
          · simp only [impl_Value_82_54.l0, impl_TupleOk_1.f, h0, h1, if_true, rdV_at hi, impl_ValueOk_eq, Option.bind_some, h2, Bool.not_true, Bool.false_eq_true, if_false, succ64 hi hx]
            exact h
          · rw [drop_at hi, List.all_cons, h2, e]; simp
    obtain ⟨r, h, e⟩ := key 0 (Nat.zero_le _)
    simp only [List.drop_zero] at e
    simp only [impl_Value_53_54.f, impl_Value_82_54.f]
    refine Ev.bind (Ev.bind h (Ev.now _)) ?_
    rw [e, Bool.not_not]
    exact Ev.now _
  · have hl2 : ¬ (x.length : Int) ≤ 4 := by omega
    simp only [hl, hl2, if_false, decide_false, Bool.and_false]
    exact Ev.now _
end Go.Proofs.Ytcedikpkbgofhaa.P2
namespace Go.Proofs.Ytcedikpkbgofhaa.P2
open Go.RowKit Go.Proofs.YtcedikpkbgofhaaW.PrintWords Go.Proofs.YtcedikpkbgofhaaW.PrintLast Go.Proofs.YtcedikpkbgofhaaW.PrintMore Go.Proofs.YtcedikpkbgofhaaZ
def byts (s : ByteArray) : List Int := s.data.toList.map fun u => (u.toNat : Int)
theorem byts_length (s : ByteArray) : (byts s).length = s.size := by unfold byts; rw [List.length_map, Array.length_toList]; rfl
theorem byts_get (s : ByteArray) (i : Nat) (h : i < (byts s).length) : (byts s)[i] = bt s (i : Int) := by
  have h2 : i < s.size := by rw [byts_length] at h; exact h
  have e : (byts s)[i] = ((s.data.toList[i]'(by rw [Array.length_toList]; exact h2)).toNat : Int) := List.getElem_map ..
  rw [e]
  unfold bt
  rw [dif_pos (show (i : Int).toNat < s.size from h2)]
  rfl
theorem byts_str (s : ByteArray) : strOfNums (byts s) = s := by
  cases s with
  | mk d =>
    simp only [strOfNums, byts, List.map_map]
    congr 1
    have : ((fun n : Int => UInt8.ofNat n.toNat) ∘ fun u : UInt8 => (u.toNat : Int)) = id := by
      funext u; simp
    rw [this, List.map_id]
theorem byts_drop (s : ByteArray) {i : Nat} (h : i < s.size) : (byts s).drop i = bt s (i : Int) :: (byts s).drop (i + 1) := by
  have h' : i < (byts s).length := by rw [byts_length]; exact h
  rw [drop_at h', byts_get s i h']
def be (v : Int) : Nat → List Int
  | 0 => []
  | j + 1 => (v / 2 ^ (8 * j)) % 256 :: be v j
theorem be_length (v : Int) : ∀ j, (be v j).length = j
  | 0 => rfl
  | j + 1 => by simp only [be, List.length_cons, be_length v j]
def esc : List Int → List Int
  | [] => [0, 1]
  | b :: r => b :: (if b = 0 then 255 :: esc r else esc r)
theorem esc_length : ∀ l, (esc l).length ≤ 2 * l.length + 2
  | [] => by simp [esc]
  | b :: r => by
    have := esc_length r
    simp only [esc]
    split <;> simp only [List.length_cons] <;> omega
def encV (a : iV) : List Int :=
  ((a.f0 + 1) % 256) :: (if a.f0 = 1 then [a.f1 % 256] else if a.f0 = 2 then be (a.f1 + 4611686018427387904) 8 else if a.f0 = 3 then esc (byts a.f2) else [])
theorem okV_kind {a : iV} (h : okV a = true) : a.f0 = 0 ∨ (a.f0 = 1 ∧ 0 ≤ a.f1 ∧ a.f1 ≤ 1) ∨ (a.f0 = 2 ∧ -1000000000000 ≤ a.f1 ∧ a.f1 ≤ 1000000000000) ∨ (a.f0 = 3 ∧ a.f1 = 0 ∧ a.f2.size ≤ 20) := by
  simp only [okV, Bool.or_eq_true, Bool.and_eq_true, beq_iff_eq, decide_eq_true_eq] at h
  omega
theorem encV_length {a : iV} (h : okV a = true) : (encV a).length ≤ 43 := by
  unfold encV
  have hk := okV_kind h
  split
  · simp
  · split
    · simp [be_length]
    · split
      · have := esc_length (byts a.f2); rw [byts_length] at this; simp only [List.length_cons]; omega
      · simp
def encs (l : List iV) : List Int := l.flatMap encV
theorem encs_length : ∀ {l : List iV}, (∀ a ∈ l, okV a = true) → (encs l).length ≤ 43 * l.length
  | [], _ => by simp [encs]
  | a :: l, h => by
    have h1 := encV_length (h a (by simp))
    have h2 := encs_length (l := l) (fun b hb => h b (by simp [hb]))
    simp only [encs, List.flatMap_cons, List.length_append, List.length_cons] at h2 ⊢
    omega
theorem encs_take {l : List iV} {i : Nat} (h : i < l.length) : encs (l.take (i + 1)) = encs (l.take i) ++ encV l[i] := by
  rw [← List.take_append_getElem h]
  simp only [encs, List.flatMap_append, List.flatMap_cons, List.flatMap_nil, List.append_nil]
def tbytes (l : List iV) : List Int := if okT l = true then encs l else []
theorem okT_mem {l : List iV} (h : okT l = true) : (∀ a ∈ l, okV a = true) ∧ l.length ≤ 4 := by
  simp only [okT, Bool.and_eq_true, List.all_eq_true, decide_eq_true_eq] at h
  exact h
theorem and255 {x : Int} (h0 : 0 ≤ x) (h1 : x < 2 ^ 63) : Go.bits .and .i64 x 255 = x % 256 :=
  bits_mask .i64 63 (by decide) (fun n a b => by rw [IntKind.wrap_i64]; omega) 8 (by decide) x h0 h1
theorem shr_be (v : Int) (j : Nat) (h : j < 8) : shr .i64 v (8 * (j : Int)) = v / 2 ^ (8 * j) := by
  unfold shr
  have : min (8 * (j : Int)).toNat IntKind.i64.bits = 8 * j := by
    have e : (8 * (j : Int)).toNat = 8 * j := by omega
    rw [e]
    exact Nat.min_eq_left (by show 8 * j ≤ 64; omega)
  rw [this]
theorem div_lt {v : Int} (h0 : 0 ≤ v) (h1 : v < 2 ^ 63) (n : Nat) : 0 ≤ v / 2 ^ n ∧ v / 2 ^ n < 2 ^ 63 := by
  have hp : (0 : Int) < 2 ^ n := Int.pow_pos (by decide)
  exact ⟨Int.ediv_nonneg h0 (Int.le_of_lt hp), Int.lt_of_le_of_lt (Int.ediv_le_self _ h0) h1⟩
theorem spec_be_ev (v : Int) (h0 : 0 ≤ v) (h1 : v < 2 ^ 63) : ∀ (j : Nat) (out : List Int), j ≤ 8 → out.length + j ≤ 1000 → Ev (fun k => spec_l18Value.l0 k out v (8 * (j : Int) - 8)) (out ++ be v j) := by
  intro j
  induction j with
  | zero =>
    intro out _ _
    refine Ev.shift ?_
    have : ¬ (8 * ((0 : Nat) : Int) - 8 ≥ 0) := by omega
    simp only [spec_l18Value.l0, this, if_false, be, List.append_nil]
    exact Ev.now _
  | succ j ih =>
    intro out hj hl
    refine Ev.shift ?_
    have e : 8 * ((j + 1 : Nat) : Int) - 8 = 8 * (j : Int) := by omega
    have c1 : 8 * (j : Int) ≥ 0 := by omega
    have c2 : out.length < 140737488355328 := by omega
    have hd := div_lt h0 h1 (8 * j)
    rw [e]
    have c3 : (0 : Int) ≤ 8 * (j : Int) := c1
    simp only [spec_l18Value.l0, c1, c2, c3, if_true, shr_be v j (by omega), and255 hd.1 hd.2, w64 (n := 8 * (j : Int) - 8) (by omega) (by omega), Int.emod_emod_of_dvd _ (Int.dvd_refl 256)]
    have := ih (out ++ [v / 2 ^ (8 * j) % 256]) (by omega) (by simp only [List.length_append, List.length_cons, List.length_nil]; omega)
    rw [List.append_assoc] at this
    exact this
theorem spec_esc_ev (a b : Int) (s : ByteArray) : ∀ (n i : Nat) (out : List Int), i + n = s.size → out.length + 2 * n ≤ 1000 → i + n ≤ 1000 → Ev (fun k => spec_l18Value.l1 k out (i : Int) a b s) (out ++ esc ((byts s).drop i)) := by
  intro n
  induction n with
  | zero =>
    intro i out hi hl _
    refine Ev.shift ?_
    have c : ¬ ((i : Int) < (s.size : Int)) := by omega
    have c2 : out.length + [(0 : Int), 1].length < 140737488355328 := by simp only [List.length_cons, List.length_nil]; omega
    rw [List.drop_eq_nil_of_le (by rw [byts_length]; omega)]
    simp only [spec_l18Value.l1, c, if_false, Option.bind_some, c2, if_true, esc]
    exact Ev.now _
  | succ n ih =>
    intro i out hi hl hin
    refine Ev.shift ?_
    have c : ((i : Int) < (s.size : Int)) := by omega
    have c1 : (0 : Int) ≤ (i : Int) := by omega
    have c2 : out.length < 140737488355328 := by omega
    have c3 : (out ++ [bt s (i : Int)]).length < 140737488355328 := by simp only [List.length_append, List.length_cons, List.length_nil]; omega
    rw [byts_drop s (by omega)]
    simp only [spec_l18Value.l1, c, c1, c2, c3, if_true, Option.bind_some, esc, succ64 (show i < s.size by omega) (by omega)]
    by_cases hz : bt s (i : Int) = 0
    · have := ih (i + 1) ((out ++ [bt s (i : Int)]) ++ [255]) (by omega) (by simp only [List.length_append, List.length_cons, List.length_nil]; omega) (by omega)
      simp only [List.append_assoc, List.cons_append, List.nil_append] at this
      simp only [hz, if_true, List.append_assoc, List.cons_append, List.nil_append] at this ⊢
      exact this
    · have := ih (i + 1) (out ++ [bt s (i : Int)]) (by omega) (by simp only [List.length_append, List.length_cons, List.length_nil]; omega) (by omega)
      simp only [List.append_assoc, List.cons_append, List.nil_append] at this
      simp only [hz, if_false, List.append_assoc, List.cons_append, List.nil_append]
      exact this
theorem spec_l18Value_ev {a : iV} (h : okV a = true) : Ev (fun k => spec_l18Value.f k a.f0 a.f1 a.f2) (encV a) := by
  have hk := okV_kind h
  have hw : wrap64 (a.f0 + 1) = a.f0 + 1 := w64 (by omega) (by omega)
  have c2 : [(a.f0 + 1) % 256].length < 140737488355328 := by simp
  simp only [spec_l18Value.f, Option.bind_some, hw, encV]
  by_cases h1 : a.f0 = 1
  · simp only [h1, if_true, show [((1 : Int) + 1) % 256].length < 140737488355328 by decide]
    exact Ev.now _
  · by_cases h2 : a.f0 = 2
    · have h3 := spec_be_ev (a.f1 + 4611686018427387904) (by omega) (by omega) 8 [(a.f0 + 1) % 256] (by omega) (by simp)
      simp only [h1, h2, if_true, if_false, w64 (n := a.f1 + 4611686018427387904) (by omega) (by omega)] at h3 ⊢
      exact h3
    · by_cases h4 : a.f0 = 3
      · have h3 := spec_esc_ev a.f0 a.f1 a.f2 a.f2.size 0 [(a.f0 + 1) % 256] (by omega) (by simp only [List.length_cons, List.length_nil]; omega) (by omega)
        simp only [List.drop_zero] at h3
        simp only [h4, show ¬ (3 : Int) = 1 by decide, show ¬ (3 : Int) = 2 by decide, if_true, if_false] at h3 ⊢
        exact h3
      · simp only [h1, h2, h4, if_false]
        exact Ev.now _
theorem spec_TupleBytes_ev (l : List iV) (hl : l.length ≤ 9223372036854775807) : Ev (fun k => spec_TupleBytes.f k l) (tbytes l) := by
  simp only [spec_TupleBytes.f, tbytes]
  by_cases h : okT l = true
  · rw [if_pos h]
    obtain ⟨hm, hl4⟩ := okT_mem h
    refine (back (n := l.length) (Q := fun i => Ev (fun k => spec_TupleBytes.l0 k l (encs (l.take i)) (i : Int)) (encs l)) ?_ (fun i hi ih => ?_) 0 (Nat.zero_le _))
    · refine Ev.shift ?_
      simp only [spec_TupleBytes.l0, Int.lt_irrefl, if_false, List.take_length]
      exact Ev.now _
    · have h0 : (0 : Int) ≤ (i : Int) := by omega
      have h1 : (i : Int) < (l.length : Int) := by omega
      have hok : okV l[i] = true := hm _ (List.getElem_mem hi)
      have hs := encs_length (l := l.take i) (fun a ha => hm a (List.mem_of_mem_take ha))
      rw [List.length_take] at hs
      have hv := encV_length hok
      have c : (encs (l.take i)).length + (encV l[i]).length < 140737488355328 := by omega
      rw [encs_take hi] at ih
      refine Ev.shift ?_
      simp only [spec_TupleBytes.l0, h0, h1, if_true, rdV_at hi]
      refine Ev.bind (spec_TupleOk_ev l hl) ?_
      simp only [h, if_true]
      refine Ev.bind (spec_l18Value_ev hok) ?_
      simp only [c, if_true, succ64 hi hl]
      exact ih
  · rw [if_neg h]
    refine Ev.shift ?_
    by_cases hn : (0 : Int) < (l.length : Int)
    · simp only [spec_TupleBytes.l0, hn, if_true]
      refine Ev.bind (spec_TupleOk_ev l hl) ?_
      simp only [h, if_false]
      exact Ev.now _
    · simp only [spec_TupleBytes.l0, hn, if_false]
      exact Ev.now _
theorem impl_be_ev (x13 : List iV) (x14 x15 : Int) (a b : Int) (s : ByteArray) (h0 : 0 ≤ b + 4611686018427387904) (h1 : b + 4611686018427387904 < 2 ^ 63) (r : List Int) : ∀ (j : Nat) (out : List Int), j ≤ 8 → out.length + j ≤ 1000 →
    Ev (fun k => impl_TupleBytes.l0 k (out ++ be (b + 4611686018427387904) j) x13 x14 (wrap64 (x15 + 1))) r →
    Ev (fun k => impl_TupleBytes.l1 k out ((j : Int) - 1) x13 x14 x15 a b s) r := by
  intro j
  induction j with
  | zero =>
    intro out _ _ hr
    refine Ev.shift ?_
    have : ¬ (((0 : Nat) : Int) - 1 ≥ 0) := by omega
    simp only [impl_TupleBytes.l1, this, if_false]
    simp only [be, List.append_nil] at hr
    exact hr
  | succ j ih =>
    intro out hj hl hr
    refine Ev.shift ?_
    have e : ((j + 1 : Nat) : Int) - 1 = (j : Int) := by omega
    have c1 : (j : Int) ≥ 0 := by omega
    have c2 : out.length < 140737488355328 := by omega
    have c3 : (0 : Int) ≤ 8 * (j : Int) := by omega
    rw [e]
    simp only [impl_TupleBytes.l1, c1, c2, if_true, w64 (n := 8 * (j : Int)) (by omega) (by omega), c3, w64 (n := b + 4611686018427387904) (by omega) (by omega), shr_be _ j (by omega), w64 (n := (j : Int) - 1) (by omega) (by omega)]
    refine ih (out ++ [(b + 4611686018427387904) / 2 ^ (8 * j) % 256]) (by omega) (by simp only [List.length_append, List.length_cons, List.length_nil]; omega) ?_
    rw [List.append_assoc]
    exact hr
theorem impl_esc_ev (x13 : List iV) (x14 x15 : Int) (a b : Int) (s : ByteArray) (r : List Int) : ∀ (n i : Nat) (out : List Int), i + n = s.size → out.length + 2 * n ≤ 1000 → i + n ≤ 1000 →
    Ev (fun k => impl_TupleBytes.l0 k (out ++ esc ((byts s).drop i)) x13 x14 (wrap64 (x15 + 1))) r →
    Ev (fun k => impl_TupleBytes.l2 k out x13 x14 x15 (s.size : Int) (i : Int) a b s) r := by
  intro n
  induction n with
  | zero =>
    intro i out hi hl _ hr
    refine Ev.shift ?_
    have c : ¬ ((i : Int) < (s.size : Int)) := by omega
    have c2 : out.length + [(0 : Int), 1].length < 140737488355328 := by simp only [List.length_cons, List.length_nil]; omega
    rw [List.drop_eq_nil_of_le (by rw [byts_length]; omega)] at hr
    simp only [impl_TupleBytes.l2, c, if_false, Option.bind_some, c2, if_true]
    simp only [esc] at hr
    exact hr
  | succ n ih =>
    intro i out hi hl hin hr
    refine Ev.shift ?_
    have c : ((i : Int) < (s.size : Int)) := by omega
    have c1 : (0 : Int) ≤ (i : Int) := by omega
    have c2 : out.length < 140737488355328 := by omega
    have c3 : (out ++ [bt s (i : Int)]).length < 140737488355328 := by simp only [List.length_append, List.length_cons, List.length_nil]; omega
    rw [byts_drop s (by omega)] at hr
    simp only [impl_TupleBytes.l2, c, c1, c2, c3, if_true, Option.bind_some, succ64 (show i < s.size by omega) (by omega)]
    simp only [esc] at hr
    by_cases hz : bt s (i : Int) = 0
    · simp only [hz, if_true] at hr ⊢
      refine ih (i + 1) ((out ++ [0]) ++ [255]) (by omega) (by simp only [List.length_append, List.length_cons, List.length_nil]; omega) (by omega) ?_
      simp only [List.append_assoc, List.cons_append, List.nil_append]
      exact hr
    · simp only [hz, if_false] at hr ⊢
      refine ih (i + 1) (out ++ [bt s (i : Int)]) (by omega) (by simp only [List.length_append, List.length_cons, List.length_nil]; omega) (by omega) ?_
      simp only [List.append_assoc, List.cons_append, List.nil_append]
      exact hr
theorem impl_TupleBytes_ev (l : List iV) (hl : l.length ≤ 9223372036854775807) : Ev (fun k => impl_TupleBytes.f k l) (tbytes l) := by
  simp only [impl_TupleBytes.f, tbytes, Option.bind_some]
  refine Ev.bind (impl_TupleOk_ev l hl) ?_
  by_cases h : okT l = true
  · rw [if_pos h]
    simp only [h, if_true]
    obtain ⟨hm, hl4⟩ := okT_mem h
    refine (back (n := l.length) (Q := fun i => Ev (fun k => impl_TupleBytes.l0 k (encs (l.take i)) l (l.length : Int) (i : Int)) (encs l)) ?_ (fun i hi ih => ?_) 0 (Nat.zero_le _))
    · refine Ev.shift ?_
      simp only [impl_TupleBytes.l0, Int.lt_irrefl, if_false, List.take_length]
      exact Ev.now _
    · have h0 : (0 : Int) ≤ (i : Int) := by omega
      have h1 : (i : Int) < (l.length : Int) := by omega
      have hok : okV l[i] = true := hm _ (List.getElem_mem hi)
      have hk := okV_kind hok
      have hs := encs_length (l := l.take i) (fun a ha => hm a (List.mem_of_mem_take ha))
      rw [List.length_take] at hs
      have c : (encs (l.take i)).length < 140737488355328 := by omega
      have hw : wrap64 (l[i].f0 + 1) = l[i].f0 + 1 := w64 (by omega) (by omega)
      have c2 : (encs (l.take i) ++ [(l[i].f0 + 1) % 256]).length < 140737488355328 := by simp only [List.length_append, List.length_cons, List.length_nil]; omega
      rw [encs_take hi] at ih
      simp only [encV] at ih
      refine Ev.shift ?_
      simp only [impl_TupleBytes.l0, h0, h1, c, c2, if_true, rdV_at hi, hw, Option.bind_some]
      by_cases g1 : l[i].f0 = 1
      · simp only [g1, if_true, succ64 hi hl] at ih c2 ⊢
        simp only [c2, if_true, List.append_assoc, List.cons_append, List.nil_append]
        exact ih
      · by_cases g2 : l[i].f0 = 2
        · simp only [g1, g2, if_true, if_false, show ¬ (2 : Int) = 1 by decide] at ih ⊢
          refine impl_be_ev l (l.length : Int) (i : Int) 2 l[i].f1 l[i].f2 (by omega) (by omega) _ 8 _ (by omega) (by simp only [List.length_append, List.length_cons, List.length_nil]; omega) ?_
          simp only [List.append_assoc, List.cons_append, List.nil_append, succ64 hi hl]
          exact ih
        · by_cases g3 : l[i].f0 = 3
          · simp only [g3, if_true, if_false, show ¬ (3 : Int) = 1 by decide, show ¬ (3 : Int) = 2 by decide] at ih ⊢
            refine impl_esc_ev l (l.length : Int) (i : Int) 3 l[i].f1 l[i].f2 _ l[i].f2.size 0 _ (by omega) (by simp only [List.length_append, List.length_cons, List.length_nil]; omega) (by omega) ?_
            simp only [List.append_assoc, List.cons_append, List.nil_append, succ64 hi hl, List.drop_zero]
            exact ih
          · simp only [g1, g2, g3, if_false, succ64 hi hl] at ih ⊢
            exact ih
  · rw [if_neg h]
    simp only [h, if_false]
    exact Ev.now _
theorem at_drop {x : List Int} {p : Nat} {a : Int} {t : List Int} (h : x.drop p = a :: t) : p < x.length ∧ rd x (p : Int) = a ∧ x.drop (p + 1) = t := by
  have h1 : p < x.length := by
    apply Classical.byContradiction
    intro hn
    rw [List.drop_eq_nil_of_le (by omega)] at h
    cases h
  rw [drop_at h1] at h
  injection h with h2 h3
  exact ⟨h1, by rw [← h2]; exact rd_get (List.getElem?_eq_getElem h1), h3⟩
def isB (x : List Int) : Prop := ∀ b ∈ x, 0 ≤ b ∧ b < 256
theorem wrap_u64 {n : Int} (a : 0 ≤ n) (b : n < 2 ^ 64) : IntKind.u64.wrap n = n := by
  have e : IntKind.u64.wrap n = n % 18446744073709551616 := by simp [IntKind.wrap, IntKind.bits, IntKind.signed]
  rw [e]; omega
theorem be_step (v : Int) (j : Nat) : v / 2 ^ (8 * (j + 1)) * 256 + v / 2 ^ (8 * j) % 256 = v / 2 ^ (8 * j) := by
  have e : (2 : Int) ^ (8 * (j + 1)) = 2 ^ (8 * j) * 256 := by rw [Nat.mul_add, Int.pow_add]; rfl
  rw [e, ← Int.ediv_ediv_of_nonneg (Int.le_of_lt (Int.pow_pos (by decide)))]
  omega
theorem impl_text_ev (x : List Int) (hx : x.length ≤ 1048576) (rest : List Int) : ∀ (bs : List Int) (p : Nat) (out : List Int), x.drop p = esc bs ++ rest → out.length ≤ p →
    Ev (fun k => impl_takeText.l0 k x out (p : Int)) (strOfNums (out ++ bs), rest) := by
  intro bs
  induction bs with
  | nil =>
    intro p out h hl
    simp only [esc, List.cons_append, List.nil_append] at h
    obtain ⟨h1, h2, h3⟩ := at_drop h
    obtain ⟨h4, h5, h6⟩ := at_drop h3
    refine Ev.shift ?_
    have c0 : (p : Int) < (x.length : Int) := by omega
    have c1 : (0 : Int) ≤ (p : Int) := by omega
    have w1 : wrap64 ((p : Int) + 1) = ((p + 1 : Nat) : Int) := succ64 h1 (by omega)
    have w2 : wrap64 ((p : Int) + 2) = ((p + 1 + 1 : Nat) : Int) := by rw [w64 (by omega) (by omega)]; omega
    have c2 : ((p + 1 : Nat) : Int) < (x.length : Int) := by omega
    have c3 : (0 : Int) ≤ ((p + 1 : Nat) : Int) := by omega
    have c4 : ((p + 1 + 1 : Nat) : Int) ≤ (x.length : Int) := by omega
    have c5 : (0 : Int) ≤ ((p + 1 + 1 : Nat) : Int) := by omega
    simp only [impl_takeText.l0, w1, w2, c0, c1, c2, c3, c4, c5, h2, h5, if_true, Int.toNat_natCast, h6, List.append_nil]
    exact Ev.now _
  | cons b r ih =>
    intro p out h hl
    by_cases hb : b = 0
    · subst hb
      simp only [esc, if_true, List.cons_append] at h
      obtain ⟨h1, h2, h3⟩ := at_drop h
      obtain ⟨h4, h5, h6⟩ := at_drop h3
      refine Ev.shift ?_
      have c0 : (p : Int) < (x.length : Int) := by omega
      have c1 : (0 : Int) ≤ (p : Int) := by omega
      have w1 : wrap64 ((p : Int) + 1) = ((p + 1 : Nat) : Int) := succ64 h1 (by omega)
      have w2 : wrap64 (((p + 1 : Nat) : Int) + 1) = ((p + 1 + 1 : Nat) : Int) := succ64 h4 (by omega)
      have c2 : ((p + 1 : Nat) : Int) < (x.length : Int) := by omega
      have c3 : (0 : Int) ≤ ((p + 1 : Nat) : Int) := by omega
      have c4 : out.length < 140737488355328 := by omega
      simp only [impl_takeText.l0, w1, w2, c0, c1, c2, c3, c4, h2, h5, if_true, show ¬ (255 : Int) = 1 by decide, if_false]
      have := ih (p + 1 + 1) (out ++ [0]) h6 (by simp only [List.length_append, List.length_cons, List.length_nil]; omega)
      rw [List.append_assoc] at this
      exact this
    · simp only [esc, hb, if_false, List.cons_append] at h
      obtain ⟨h1, h2, h3⟩ := at_drop h
      refine Ev.shift ?_
      have c0 : (p : Int) < (x.length : Int) := by omega
      have c1 : (0 : Int) ≤ (p : Int) := by omega
      have w1 : wrap64 ((p : Int) + 1) = ((p + 1 : Nat) : Int) := succ64 h1 (by omega)
      have c4 : out.length < 140737488355328 := by omega
      simp only [impl_takeText.l0, w1, c0, c1, c4, h2, hb, if_true, if_false]
      have := ih (p + 1) (out ++ [b]) h3 (by simp only [List.length_append, List.length_cons, List.length_nil]; omega)
      rw [List.append_assoc] at this
      exact this
theorem impl_be_read (x : List Int) (a b : Int) (s : ByteArray) (v : Int) (h0 : 0 ≤ v) (h1 : v < 2 ^ 63) (hx : 8 ≤ x.length) : ∀ (j p : Nat), p + j = 8 → (x.take 8).drop p = be v j →
    Ev (fun k => impl_takeValue.l0 k x (v / 2 ^ (8 * j)) (x.take 8) (8 : Int) (p : Int) a b s) (a, wrap64 (v - 4611686018427387904), s, x.drop 8) := by
  intro j
  induction j with
  | zero =>
    intro p hp h
    refine Ev.shift ?_
    have c : ¬ ((p : Int) < 8) := by omega
    have c2 : (8 : Int) ≤ (x.length : Int) := by omega
    have e : v / 2 ^ (8 * 0) = v := by omega
    simp only [impl_takeValue.l0, c, c2, if_true, if_false, e, w64 (n := v) (by omega) (by omega)]
    exact Ev.now _
  | succ j ih =>
    intro p hp h
    simp only [be] at h
    obtain ⟨g1, g2, g3⟩ := at_drop h
    have c0 : (p : Int) < 8 := by omega
    have c1 : (0 : Int) ≤ (p : Int) := by omega
    have c2 : (p : Int) < ((x.take 8).length : Int) := by omega
    have hd := div_lt h0 h1 (8 * (j + 1))
    have hs := be_step v j
    have hd2 := div_lt h0 h1 (8 * j)
    refine Ev.shift ?_
    have hlt : v / 2 ^ (8 * (j + 1)) < 2 ^ 55 := by omega
    have e : Go.bits .or .u64 (IntKind.u64.wrap (v / 2 ^ (8 * (j + 1)) * 256)) (IntKind.u64.wrap (v / 2 ^ (8 * j) % 256)) = v / 2 ^ (8 * j) := by
      have hu : ∀ n : Int, 0 ≤ n → n < 2 ^ 64 → IntKind.u64.wrap n = n := fun n a b => wrap_u64 a b
      rw [hu _ (by omega) (by omega), hu (v / 2 ^ (8 * j) % 256) (by omega) (by omega)]
      rw [bits_join .u64 64 (by decide) hu 8 (v / 2 ^ (8 * (j + 1)) * 256) (v / 2 ^ (8 * j) % 256) (by omega) (by omega) (by omega) (by omega) (by omega) (by omega)]
      exact hs
    simp only [impl_takeValue.l0, c0, c1, c2, g2, e, if_true, succ64 (show p < 8 by omega) (by omega)]
    exact ih (p + 1) (by omega) g3
theorem okV_full {a : iV} (h : okV a = true) : (a.f0 = 0 ∧ a.f1 = 0 ∧ a.f2 = ⟨#[]⟩) ∨ (a.f0 = 1 ∧ 0 ≤ a.f1 ∧ a.f1 ≤ 1 ∧ a.f2 = ⟨#[]⟩) ∨ (a.f0 = 2 ∧ -1000000000000 ≤ a.f1 ∧ a.f1 ≤ 1000000000000 ∧ a.f2 = ⟨#[]⟩) ∨ (a.f0 = 3 ∧ a.f1 = 0 ∧ a.f2.size ≤ 20) := by
  have hz : ∀ s : ByteArray, s.size = 0 → s = ⟨#[]⟩ := fun s hs => by
    cases s with
    | mk d => congr 1; exact Array.eq_empty_of_size_eq_zero hs
  simp only [okV, Bool.or_eq_true, Bool.and_eq_true, beq_iff_eq, decide_eq_true_eq] at h
  rcases h with ((⟨⟨h1, h2⟩, h3⟩ | ⟨⟨h1, h2⟩, h3⟩) | ⟨⟨h1, h2⟩, h3⟩) | ⟨⟨h1, h2⟩, h3⟩
  · exact Or.inl ⟨h1, h2, hz _ h3⟩
  · exact Or.inr (Or.inl ⟨h1, h2.1, h2.2, hz _ h3⟩)
  · exact Or.inr (Or.inr (Or.inl ⟨h1, h2.1, h2.2, hz _ h3⟩))
  · exact Or.inr (Or.inr (Or.inr ⟨h1, h2, h3⟩))
theorem head_kind {n : Int} (h0 : 0 ≤ n) (h1 : n ≤ 3) : wrap64 (wrap64 ((n + 1) % 256) - 1) = n := by
  have : n = 0 ∨ n = 1 ∨ n = 2 ∨ n = 3 := by omega
  unfold wrap64; omega
theorem impl_take_ev {a : iV} (h : okV a = true) (x rest : List Int) (hx : x.length ≤ 1048576) (he : x = encV a ++ rest) : Ev (fun k => impl_takeValue.f k x) (a.f0, a.f1, a.f2, rest) := by
  have hxx : x.drop 0 = encV a ++ rest := by rw [List.drop_zero]; exact he
  simp only [encV, List.cons_append] at hxx
  obtain ⟨h1, h2, h3⟩ := at_drop hxx
  have c0 : (0 : Int) < (x.length : Int) := by omega
  have c1 : (1 : Int) ≤ (x.length : Int) := by omega
  have h2' : rd x 0 = (a.f0 + 1) % 256 := h2
  have hk : wrap64 (wrap64 (rd x 0) - 1) = a.f0 := by rw [h2']; have := okV_kind h; exact head_kind (by omega) (by omega)
  have h3' : x.drop 1 = _ := h3
  simp only [impl_takeValue.f, c0, c1, if_true, Option.bind_some, hk]
  rw [h3']
  rcases okV_full h with ⟨k0, k1, k2⟩ | ⟨k0, k1, k2, k3⟩ | ⟨k0, k1, k2, k3⟩ | ⟨k0, k1, k2⟩
  · simp only [k0, k1, k2, show ¬ (0 : Int) = 1 by decide, show ¬ (0 : Int) = 2 by decide, show ¬ (0 : Int) = 3 by decide, if_false, List.nil_append]
    refine Ev.shift ?_
    simp only [impl_takeValue.j0, Bool.false_eq_true, if_false, show ¬ (0 : Int) = 2 by decide]
    refine Ev.shift ?_
    simp only [impl_takeValue.j1, Bool.false_eq_true, if_false, show ¬ (0 : Int) = 3 by decide]
    exact Ev.now _
  · have e : a.f1 % 256 = a.f1 := by omega
    simp only [k0, k3, if_true, List.cons_append, List.nil_append, e]
    refine Ev.shift ?_
    have c2 : (0 : Int) < ((a.f1 :: rest).length : Int) := by simp only [List.length_cons]; omega
    have c3 : (1 : Int) ≤ ((a.f1 :: rest).length : Int) := by omega
    have c4 : ((a.f1 :: rest).length : Int) > 0 := c2
    have hr : rd (a.f1 :: rest) 0 = a.f1 := rfl
    simp only [impl_takeValue.j0, c2, c3, c4, decide_true, if_true, hr, w64 (n := a.f1) (by omega) (by omega), List.drop_succ_cons, List.drop_zero]
    exact Ev.now _
  · simp only [k0, k3, show ¬ (2 : Int) = 1 by decide, if_true, if_false]
    have hb := be_length (a.f1 + 4611686018427387904) 8
    have c2 : (8 : Int) ≤ ((be (a.f1 + 4611686018427387904) 8 ++ rest).length : Int) := by rw [List.length_append, hb]; omega
    have c3 : ((be (a.f1 + 4611686018427387904) 8 ++ rest).length : Int) ≥ 8 := c2
    have ht : (be (a.f1 + 4611686018427387904) 8 ++ rest).take 8 = be (a.f1 + 4611686018427387904) 8 := List.take_left' hb
    have hd : (be (a.f1 + 4611686018427387904) 8 ++ rest).drop 8 = rest := List.drop_left' hb
    refine Ev.shift ?_
    simp only [impl_takeValue.j0, Bool.false_eq_true, if_false, if_true]
    refine Ev.shift ?_
    simp only [impl_takeValue.j1, c2, c3, decide_true, if_true, Option.bind_some]
    have hl8 : (((be (a.f1 + 4611686018427387904) 8 ++ rest).take 8).length : Int) = 8 := by rw [ht, hb]; rfl
    rw [hl8]
    have := impl_be_read (be (a.f1 + 4611686018427387904) 8 ++ rest) 2 0 ⟨#[]⟩ (a.f1 + 4611686018427387904) (by omega) (by omega) (by omega) 8 0 (by omega) (by rw [List.drop_zero, ht])
    have e0 : (a.f1 + 4611686018427387904) / 2 ^ (8 * 8) = 0 := by omega
    have e1 : wrap64 (a.f1 + 4611686018427387904 - 4611686018427387904) = a.f1 := by rw [w64 (by omega) (by omega)]; omega
    rw [e0, e1, hd] at this
    exact this
  · simp only [k0, k1, show ¬ (3 : Int) = 1 by decide, show ¬ (3 : Int) = 2 by decide, if_true, if_false]
    refine Ev.shift ?_
    simp only [impl_takeValue.j0, Bool.false_eq_true, if_false, show ¬ (3 : Int) = 2 by decide]
    refine Ev.shift ?_
    simp only [impl_takeValue.j1, Bool.false_eq_true, if_false, if_true]
    have hlen : (esc (byts a.f2) ++ rest).length ≤ 1048576 := by
      have e : x.length = (encV a ++ rest).length := by rw [he]
      simp only [encV, k0, show ¬ (3 : Int) = 1 by decide, show ¬ (3 : Int) = 2 by decide, if_true, if_false, List.cons_append, List.length_cons] at e
      omega
    have := impl_text_ev (esc (byts a.f2) ++ rest) hlen rest (byts a.f2) 0 [] (by rw [List.drop_zero]) (by simp)
    rw [List.nil_append, byts_str] at this
    refine Ev.bind this ?_
    exact Ev.now _
theorem esc_two : ∀ l, 2 ≤ (esc l).length
  | [] => Nat.le_refl _
  | b :: r => by
    have := esc_two r
    simp only [esc]
    split <;> simp only [List.length_cons] <;> omega
theorem spec_text_ev (x : List Int) (hx : x.length ≤ 1048576) (rest : List Int) : ∀ (bs : List Int) (p : Nat) (out : List Int), x.drop p = esc bs ++ rest → out.length ≤ p →
    ∃ q : Nat, x.drop q = rest ∧ p ≤ q ∧ q ≤ x.length ∧ Ev (fun k => spec_l18Text.l0 k x (p : Int) out) (strOfNums (out ++ bs), (q : Int)) := by
  intro bs
  induction bs with
  | nil =>
    intro p out h hl
    simp only [esc, List.cons_append, List.nil_append] at h
    obtain ⟨h1, h2, h3⟩ := at_drop h
    obtain ⟨h4, h5, h6⟩ := at_drop h3
    refine ⟨p + 1 + 1, h6, by omega, by omega, Ev.shift ?_⟩
    have c0 : (p : Int) < (x.length : Int) := by omega
    have c1 : (0 : Int) ≤ (p : Int) := by omega
    have w1 : wrap64 ((p : Int) + 1) = ((p + 1 : Nat) : Int) := succ64 h1 (by omega)
    have w2 : wrap64 ((p : Int) + 2) = ((p + 1 + 1 : Nat) : Int) := by rw [w64 (by omega) (by omega)]; omega
    have c2 : ((p + 1 : Nat) : Int) < (x.length : Int) := by omega
    have c3 : (0 : Int) ≤ ((p + 1 : Nat) : Int) := by omega
    simp only [spec_l18Text.l0, w1, c0, c1, c2, c3, h2, h5, if_true]
    refine Ev.shift ?_
    simp only [spec_l18Text.j1, beq_self_eq_true, if_true, w2, List.append_nil]
    exact Ev.now _
  | cons b r ih =>
    intro p out h hl
    by_cases hb : b = 0
    · subst hb
      simp only [esc, if_true, List.cons_append] at h
      obtain ⟨h1, h2, h3⟩ := at_drop h
      obtain ⟨h4, h5, h6⟩ := at_drop h3
      obtain ⟨q, g1, g2, g3, g4⟩ := ih (p + 1 + 1) (out ++ [0]) h6 (by simp only [List.length_append, List.length_cons, List.length_nil]; omega)
      refine ⟨q, g1, by omega, g3, Ev.shift ?_⟩
      have c0 : (p : Int) < (x.length : Int) := by omega
      have c1 : (0 : Int) ≤ (p : Int) := by omega
      have w1 : wrap64 ((p : Int) + 1) = ((p + 1 : Nat) : Int) := succ64 h1 (by omega)
      have w2 : wrap64 (((p + 1 : Nat) : Int) + 1) = ((p + 1 + 1 : Nat) : Int) := succ64 h4 (by omega)
      have c2 : ((p + 1 : Nat) : Int) < (x.length : Int) := by omega
      have c3 : (0 : Int) ≤ ((p + 1 : Nat) : Int) := by omega
      have c4 : out.length < 140737488355328 := by omega
      simp only [spec_l18Text.l0, w1, c0, c1, c2, c3, h2, h5, if_true]
      refine Ev.shift ?_
      simp only [spec_l18Text.j1, show ((255 : Int) == 1) = false by decide, Bool.false_eq_true, if_false, c0, c1, c4, h2, if_true, Option.bind_some, w1, w2]
      rw [List.append_assoc] at g4
      exact g4
    · simp only [esc, hb, if_false, List.cons_append] at h
      obtain ⟨h1, h2, h3⟩ := at_drop h
      have hne : 2 ≤ (esc r ++ rest).length := by
        have := esc_two r
        rw [List.length_append]
        omega
      have h4 : p + 1 < x.length := by
        have e : (x.drop (p + 1)).length = (esc r ++ rest).length := by rw [h3]
        rw [List.length_drop] at e
        omega
      obtain ⟨q, g1, g2, g3, g4⟩ := ih (p + 1) (out ++ [b]) h3 (by simp only [List.length_append, List.length_cons, List.length_nil]; omega)
      refine ⟨q, g1, by omega, g3, Ev.shift ?_⟩
      have c0 : (p : Int) < (x.length : Int) := by omega
      have c1 : (0 : Int) ≤ (p : Int) := by omega
      have w1 : wrap64 ((p : Int) + 1) = ((p + 1 : Nat) : Int) := succ64 h1 (by omega)
      have c2 : ((p + 1 : Nat) : Int) < (x.length : Int) := by omega
      have c4 : out.length < 140737488355328 := by omega
      simp only [spec_l18Text.l0, w1, c0, c1, c2, h2, hb, if_true, if_false]
      refine Ev.shift ?_
      simp only [spec_l18Text.j1, Bool.false_eq_true, if_false, c0, c1, c4, h2, hb, if_true, Option.bind_some, w1]
      rw [List.append_assoc] at g4
      exact g4
theorem spec_be_read (x : List Int) (p0 : Nat) (a : Int) (s : ByteArray) (v : Int) (h0 : 0 ≤ v) (h1 : v < 2 ^ 63) (hx : x.length ≤ 1048576) (hp0 : p0 ≤ 1048576) (rest : List Int) : ∀ (j p : Nat), p + j = p0 + 9 → x.drop p = be v j ++ rest →
    Ev (fun k => spec_l18Read.l0 k x (p0 : Int) (p : Int) a (v / 2 ^ (8 * j)) s) (a, wrap64 (v - 4611686018427387904), s, ((p0 + 9 : Nat) : Int)) := by
  have w : wrap64 ((p0 : Int) + 9) = ((p0 + 9 : Nat) : Int) := by rw [w64 (by omega) (by omega)]; omega
  intro j
  induction j with
  | zero =>
    intro p hp h
    refine Ev.shift ?_
    have e : v / 2 ^ (8 * 0) = v := by omega
    have c : ¬ ((p : Int) < ((p0 + 9 : Nat) : Int)) := by omega
    simp only [spec_l18Read.l0, w, c, if_false, e]
    exact Ev.now _
  | succ j ih =>
    intro p hp h
    simp only [be, List.cons_append] at h
    obtain ⟨g1, g2, g3⟩ := at_drop h
    have c0 : (p : Int) < ((p0 + 9 : Nat) : Int) := by omega
    have c1 : (0 : Int) ≤ (p : Int) := by omega
    have c2 : (p : Int) < (x.length : Int) := by omega
    have hd := div_lt h0 h1 (8 * (j + 1))
    have hs := be_step v j
    have hd2 := div_lt h0 h1 (8 * j)
    refine Ev.shift ?_
    have e : Go.bits .or .i64 (wrap64 (v / 2 ^ (8 * (j + 1)) * 256)) (wrap64 (v / 2 ^ (8 * j) % 256)) = v / 2 ^ (8 * j) := by
      rw [w64 (n := v / 2 ^ (8 * (j + 1)) * 256) (by omega) (by omega), w64 (n := v / 2 ^ (8 * j) % 256) (by omega) (by omega)]
      rw [bits_join .i64 63 (by decide) (fun n a b => by rw [IntKind.wrap_i64]; omega) 8 (v / 2 ^ (8 * (j + 1)) * 256) (v / 2 ^ (8 * j) % 256) (by omega) (by omega) (by omega) (by omega) (by omega) (by omega)]
      exact hs
    simp only [spec_l18Read.l0, w, c0, c1, c2, g2, e, if_true, succ64 g1 (by omega)]
    exact ih (p + 1) (by omega) g3
theorem drop_le {x : List Int} {p : Nat} {l rest : List Int} (h : x.drop p = l ++ rest) (hl : l ≠ []) : p + l.length ≤ x.length := by
  have e : (x.drop p).length = (l ++ rest).length := by rw [h]
  rw [List.length_drop, List.length_append] at e
  have : 0 < l.length := List.length_pos_iff.mpr hl
  omega
theorem drop_more {x : List Int} {p : Nat} {l rest : List Int} (h : x.drop p = l ++ rest) : x.drop (p + l.length) = rest := by
  rw [← List.drop_drop, h]
  exact List.drop_left
theorem spec_read_ev {a : iV} (h : okV a = true) (x rest : List Int) (p : Nat) (hx : x.length ≤ 1048576) (he : x.drop p = encV a ++ rest) :
    ∃ q : Nat, x.drop q = rest ∧ p < q ∧ q ≤ x.length ∧ Ev (fun k => spec_l18Read.f k x (p : Int)) (a.f0, a.f1, a.f2, (q : Int)) := by
  simp only [encV, List.cons_append] at he
  obtain ⟨h1, h2, h3⟩ := at_drop he
  have c0 : (0 : Int) ≤ (p : Int) := by omega
  have c1 : (p : Int) < (x.length : Int) := by omega
  have hk : wrap64 (wrap64 (rd x (p : Int)) - 1) = a.f0 := by rw [h2]; have := okV_kind h; exact head_kind (by omega) (by omega)
  have w1 : wrap64 ((p : Int) + 1) = ((p + 1 : Nat) : Int) := succ64 h1 (by omega)
  have w2 : wrap64 ((p : Int) + 2) = ((p + 2 : Nat) : Int) := by rw [w64 (by omega) (by omega)]; omega
  simp only [spec_l18Read.f, c0, c1, if_true, hk, w1, w2]
  rcases okV_full h with ⟨k0, k1, k2⟩ | ⟨k0, k1, k2, k3⟩ | ⟨k0, k1, k2, k3⟩ | ⟨k0, k1, k2⟩
  · simp only [k0, k1, k2, show ¬ (0 : Int) = 1 by decide, show ¬ (0 : Int) = 2 by decide, show ¬ (0 : Int) = 3 by decide, if_false, if_true, List.nil_append] at h3 ⊢
    exact ⟨p + 1, h3, by omega, by omega, Ev.now _⟩
  · have e : a.f1 % 256 = a.f1 := by omega
    simp only [k0, k3, show ¬ (1 : Int) = 0 by decide, if_false, if_true, List.cons_append, List.nil_append, e] at h3 ⊢
    obtain ⟨g1, g2, g3⟩ := at_drop h3
    have c2 : ((p + 1 : Nat) : Int) < (x.length : Int) := by omega
    have c3 : (0 : Int) ≤ ((p + 1 : Nat) : Int) := by omega
    simp only [c2, c3, if_true, g2, w64 (n := a.f1) (by omega) (by omega)]
    exact ⟨p + 2, g3, by omega, by omega, Ev.now _⟩
  · simp only [k0, k3, show ¬ (2 : Int) = 0 by decide, show ¬ (2 : Int) = 1 by decide, if_true, if_false] at h3 ⊢
    have hne : be (a.f1 + 4611686018427387904) 8 ≠ [] := by intro e; have := be_length (a.f1 + 4611686018427387904) 8; rw [e] at this; cases this
    have hle := drop_le h3 hne
    have hmo := drop_more h3
    rw [be_length] at hle hmo
    have := spec_be_read x p 2 ⟨#[]⟩ (a.f1 + 4611686018427387904) (by omega) (by omega) hx (by omega) rest 8 (p + 1) (by omega) h3
    have e0 : (a.f1 + 4611686018427387904) / 2 ^ (8 * 8) = 0 := by omega
    have e1 : wrap64 (a.f1 + 4611686018427387904 - 4611686018427387904) = a.f1 := by rw [w64 (by omega) (by omega)]; omega
    rw [e0, e1] at this
    exact ⟨p + 9, hmo, by omega, by omega, this⟩
  · simp only [k0, k1, show ¬ (3 : Int) = 0 by decide, show ¬ (3 : Int) = 1 by decide, show ¬ (3 : Int) = 2 by decide, if_true, if_false] at h3 ⊢
    obtain ⟨q, g1, g2, g3, g4⟩ := spec_text_ev x hx rest (byts a.f2) (p + 1) [] h3 (by simp)
    rw [List.nil_append, byts_str] at g4
    refine ⟨q, g1, by omega, g3, ?_⟩
    have g5 : Ev (fun k => spec_l18Text.f k x ((p + 1 : Nat) : Int)) (a.f2, (q : Int)) := g4
    refine Ev.bind g5 ?_
    exact Ev.now _
end Go.Proofs.Ytcedikpkbgofhaa.P2
