/- A part of the proof of the law FnRows: texts of this seat, merged (words, printed functions of the program, plain lemmas). Conditions: none of its own. -/
import Derived.Test.YteamagejhbkhnaaPkFnRows1
namespace Go.Proofs.Yteamagejhbkhnaa.P
open Go.Proofs.YteamagejhbkhnaaZ Go.RowKit Go.Proofs.YteamagejhbkhnaaW.PrintWords Go.Proofs.YteamagejhbkhnaaW.PrintLast Go.Proofs.YteamagejhbkhnaaW.PrintMore
attribute [local go_sem] max2_int min2_int max_two min_two max_three min_three max_four min_four   -- for this text's walks alone
set_option linter.unusedVariables false
set_option linter.unusedSimpArgs false
def spec_l3DrawRight.l0 : Nat → Int → List Int → Int → Int → List Int → Int → Option (List Int × Int × Int × Int)
  | 0, _, _, _, _, _, _ => none
  | k + 1, x4, x1000, x1001, x1002, x107000, x107001 => if x4 < 4 then ((spec_l1Below.f x1000 x1001 x1002 7).bind fun bt113 => ((spec_KeyOf.f k x107000 x107001 bt113.1).bind fun t116 => (if t116 < 0 then (if 0 ≤ x4 then (if x4 < (x107000.length : Int) then (spec_l3DrawRight.l0 k (wrap64 (x4 + 1)) x1000 bt113.2.1 bt113.2.2 (x107000.set (x4 : Int).toNat bt113.1) x107001) else (none)) else (none)) else (spec_l3DrawRight.l0 k (wrap64 (x4 + 1)) x1000 bt113.2.1 bt113.2.2 x107000 x107001)))) else ((spec_l1PickInt.f x1000 x1001 x1002 (([0, 0, 1, 3, 5] : List Int))).bind fun bt110 => (some (x107000, bt110.1, bt110.2.1, bt110.2.2)))
def spec_l3DrawRight.f (k : Nat) (s0_0 : List Int) (s0_1 : Int) (s0_2 : Int) : Option (List Int × Int × Int × Int) := (spec_RowsNew.f).bind fun bt102 => (spec_l3DrawRight.l0 k 0 s0_0 s0_1 s0_2 bt102.1 bt102.2)
set_option maxHeartbeats 8000000 in
set_option maxRecDepth 100000 in
theorem spec_l3DrawRight.calls (k : Nat) (g : Nat) (s0_0 : List Int) (s0_1 : Int) (s0_2 : Int) (r1 : List Int) (r2 : Int) (r3 : Int) (r4 : Int) (w0 w : World) (hI : IsS124 w0 w g s0_0 s0_1 s0_2) (hB : Below w0.heap.size w0 w) (h : spec_l3DrawRight.f k s0_0 s0_1 s0_2 = some (r1, r2, r3, r4)) :
    Calls Try.prog 124 #[.pointer (some ⟨g, 0, none⟩)] w fun e w' => ∃ v0_ : Value, e = .returned (.agg #[v0_, .int .i64 r2]) ∧ Kd.R (Kd.int .i64) 3 w' w.heap.size (fun _ => True) v0_ r1 ∧ IsS124 w0 w' g s0_0 r3 r4 ∧ Below w0.heap.size w0 w' ∧ KeepBut w w' g none := by
  have hu24 := Try.underlying24
  have HI0 := Aside0.mk hI
  have HK := Aside0.mk (KeepBut.refl w g none)
  have HL := Aside0.mk hB.size
  clear hI
  have HW0 := Aside0.mk hB.size
  have HB := Aside0.mk hB
  clear hB
  have H := h
  unfold spec_l3DrawRight.f at H
  clear h
  replace H := bE H; obtain ⟨⟨t102, t105⟩, A2, H⟩ := H
  try dsimp only at H
  have H' := Aside0.mk H
  clear H
  go_enter Try.func124, Try.ntmps124
  go_wp2_with (first | (refine boxE 2 #[.slice none 0 0, .int .i64 0] 24 ?_; intro gbz1 hg wz1 hbox hb; have BKz1 := Aside0.mk (hbox); have GWz1 := Aside0.mk ((by rw [hg]; exact (keep_size (w := w) (g := g) (row := none) (kX HK.out)) : w.heap.size ≤ gbz1)); have GEz1 := Aside0.mk ((Nat.le_trans HW0.out (by rw [hg]; exact (keep_size (w := w) (g := g) (row := none) (kX HK.out)) : w.heap.size ≤ gbz1) : w0.heap.size ≤ gbz1)); have NBz1 := Aside0.mk ((by rw [hg]; exact Nat.ne_of_lt (IsS124.lt (show IsS124 w0 _ g s0_0 s0_1 s0_2 from (i124 HI0.out))) : g ≠ gbz1)); have NBz2 := Aside0.mk ((by rw [hg]; exact Nat.ne_of_gt (IsS124.lt (show IsS124 w0 _ g s0_0 s0_1 s0_2 from (i124 HI0.out))) : gbz1 ≠ g)); replace HK := Aside0.mk (KeepBut.trans (kX HK.out) (KeepBut.of_below hb g none) (.inl rfl)); replace HB := Aside0.mk (below_step (hY HB.out (IsS124.ge HI0.out)) hb); replace HI0 := Aside0.mk (IsS124.below (i124 HI0.out) hb); clear hb hbox hg) | (refine goesM 45 6 Try.func45 #[] ?_; refine (spec_RowsNew.calls  t102 t105 _ A2.out).mono ?_; rintro e wz2 ⟨vz1, rfl, hoz1, hb⟩; refine ⟨_, rfl, ?_⟩; have HOz1 := Aside0.mk (Kd.R_lower hoz1 (keep_size (w := w) (g := g) (row := none) (kX HK.out))); replace BKz1 := Aside0.mk (blk_below (bX BKz1.out) hb); replace HK := Aside0.mk (KeepBut.trans (kX HK.out) (KeepBut.of_below hb g none) (.inl rfl)); replace HB := Aside0.mk (below_step (hY HB.out (IsS124.ge HI0.out)) hb); replace HI0 := Aside0.mk (IsS124.below (i124 HI0.out) hb); clear hb hoz1) | (refine boxE 3 #[.slice none 0 0, .int .i64 0] 24 ?_; intro gbz2 hg wz3 hbox hb; have BKz2 := Aside0.mk (hbox); have GWz2 := Aside0.mk ((by rw [hg]; exact (keep_size (w := w) (g := g) (row := none) (kX HK.out)) : w.heap.size ≤ gbz2)); have GEz2 := Aside0.mk ((Nat.le_trans HW0.out (by rw [hg]; exact (keep_size (w := w) (g := g) (row := none) (kX HK.out)) : w.heap.size ≤ gbz2) : w0.heap.size ≤ gbz2)); have NBz3 := Aside0.mk (gL hg (bX BKz1.out)); have NBz4 := Aside0.mk (gG hg (bX BKz1.out)); have NBz5 := Aside0.mk ((by rw [hg]; exact Nat.ne_of_lt (IsS124.lt (show IsS124 w0 _ g s0_0 s0_1 s0_2 from (i124 HI0.out))) : g ≠ gbz2)); have NBz6 := Aside0.mk ((by rw [hg]; exact Nat.ne_of_gt (IsS124.lt (show IsS124 w0 _ g s0_0 s0_1 s0_2 from (i124 HI0.out))) : gbz2 ≠ g)); replace HOz1 := Aside0.mk (Kd.R_below (rX HOz1.out) hb); replace BKz1 := Aside0.mk (blk_below (bX BKz1.out) hb); replace HK := Aside0.mk (KeepBut.trans (kX HK.out) (KeepBut.of_below hb g none) (.inl rfl)); replace HB := Aside0.mk (below_step (hY HB.out (IsS124.ge HI0.out)) hb); replace HI0 := Aside0.mk (IsS124.below (i124 HI0.out) hb); clear hb hbox hg; obtain ⟨Aoz1, coz1, eoz1⟩ := Kd.R_slice HOz1.out; subst eoz1; have hnbz1 := NBz4.out; have hncz1 := NBz3.out; have hnbz2 := NBz6.out; have hncz2 := NBz5.out; obtain ⟨hczz1, hczz2, hfzz1, hfzz2⟩ := cZ2 BKz2.out))
  go_loopg [4] k (fun kq v4 w' => ∃ (x4_1 : Int) (x1001_1 : Int) (x1002_1 : Int) (x107000_1 : List Int) (u107000 : Value), v4 = .int .i64 x4_1 ∧ Aside0 (spec_l3DrawRight.l0 kq x4_1 s0_0 x1001_1 x1002_1 x107000_1 t105 = some (r1, r2, r3, r4)) ∧ Aside0 (kq ≤ k) ∧ Aside0 (Kd.R (Kd.int .i64) 3 w' w.heap.size (fun _ => True) u107000 x107000_1) ∧ Aside0 (w'.heap[gbz1]? = some (.cells #[(.slice none 0 0), .int .i64 0] 24 (0, 0))) ∧ Aside0 (w'.heap[gbz2]? = some (.cells #[u107000, .int .i64 t105] 24 (0, 0))) ∧ Aside0 (IsS124 w0 w' g s0_0 x1001_1 x1002_1) ∧ Aside0 (KeepBut w w' g none) ∧ Aside0 (Below w0.heap.size w0 w'))
  case atStart => exact ⟨(0), (s0_1), (s0_2), (t102), (.slice Aoz1 t102.length coz1), rS, H', ⟨Nat.le_refl _⟩, ⟨(rT (h := by exact Kd.R_mono (Kd.R_far (p := ⟨gbz2, 1, none⟩) (Kd.R_far (p := ⟨gbz2, 0, none⟩) (Kd.R_types HOz1.out BKz2.out (by decide)) (fun _ hk => hk.2) (.slice Aoz1 t102.length coz1)) (fun _ hk => hk.2) (.int .i64 t105)) (fun _ hk => trivial)))⟩, ⟨(bF BKz1.out)⟩, ⟨(bP BKz2.out)⟩, ⟨(i124 HI0.out)⟩, ⟨(kX HK.out)⟩, ⟨(hY HB.out (IsS124.ge HI0.out))⟩⟩
  case round =>
    clear H'
    try clear c1
    try clear p2
    try clear c4
    try clear c7
    try clear c8
    try clear hczz1
    try clear hczz2
    try clear hfzz1
    try clear hfzz2
    obtain ⟨x4_1, x1001_1, x1002_1, x107000_1, u107000, rfl, HA, HKy1, HO_y1, BKz1, BKz2, HI0, HK, HB⟩ := hrel
    cases gk with
    | zero => exact absurd HA.out (by simp [spec_l3DrawRight.l0])
    | succ k1 =>
      have H := HA.out
      clear HA
      simp only [spec_l3DrawRight.l0] at H
      by_cases c10 : x4_1 < 4
      · rw [if_pos c10] at H
        have c10b0 := decide_eq_true c10
        clear c10
        replace H := bE H; obtain ⟨⟨t113, t114, t115⟩, A11, H⟩ := H
        try dsimp only at H
        replace H := bE H; obtain ⟨t116, A12, H⟩ := H
        go_wp2_with (first | (refine goesM 88 12 Try.func88 #[.pointer (some ⟨g, 0, none⟩), .int .i64 7] ?_; refine (spec_l1Below.calls g s0_0 x1001_1 x1002_1 7 t113 t114 t115 w0 _ (by repeat (first | (with_reducible first | exact HI0.out | apply IsS124.alloc | apply IsS124.drewN | apply IsS124.drew | apply IsS124.set_1 | apply IsS124.set_2 | refine IsS124.far ?_ NBz1.out _ | refine IsS124.far ?_ NBz5.out _) | exact HI0.out)) (by repeat (first | (with_reducible first | exact HB.out | apply below_alloc | apply pw_below_drewN | apply below_drew1 | refine below_set ?_ (IsS124.ge HI0.out) | refine below_set ?_ GEz1.out | refine below_set ?_ GEz2.out) | exact HB.out)) A11.out).mono ?_; rintro e wx1 ⟨rfl, hi, hb, hk⟩; refine ⟨_, rfl, ?_⟩; replace HO_y1 := Aside0.mk (Kd.R_mono (Kd.R_keep (IsS124.apart (show IsS124 w0 _ g s0_0 x1001_1 x1002_1 from (i124 HI0.out)) (rX HO_y1.out) (by decide)) hk (fun _ h => h.2)) (fun _ h => h.1)); replace BKz1 := Aside0.mk (KeepBut.blk hk (g' := gbz1) (o := .cells #[.slice none 0 0, .int .i64 0] 24 (0, 0)) (bX BKz1.out) NBz2.out (by simp)); replace BKz2 := Aside0.mk (KeepBut.blk hk (g' := gbz2) (o := .cells #[u107000, .int .i64 t105] 24 (0, 0)) (bX BKz2.out) NBz6.out (by simp)); replace HK := Aside0.mk (KeepBut.trans (kX HK.out) hk (.inl rfl)); replace HB := Aside0.mk (hb); replace HI0 := Aside0.mk (hi); clear hb hk hi; have hnbx1 := NBz4.out; have hncx1 := NBz3.out; have hnbx2 := NBz6.out; have hncx2 := NBz5.out; obtain ⟨hczx1, hczx2, hfzx1, hfzx2⟩ := cZ2 BKz2.out; obtain ⟨Aox1, cox1, eox1⟩ := Kd.R_slice HO_y1.out; subst eox1; refine Stop.out ?_))
        refine ⟨?_⟩
        by_cases c13 : t116 < 0
        · rw [if_pos c13] at H
          have c13b0 := decide_eq_true c13
          clear c13
          replace H := ifP H; obtain ⟨c14, H⟩ := H
          have c14b0 := decide_eq_true c14
          clear c14
          replace H := ifP H; obtain ⟨c15, H⟩ := H
          have c15b0 := decide_eq_true c15
          clear c15
          obtain ⟨y117, hy117⟩ : ∃ y_ : List Int, y_ = (x107000_1.set (x4_1 : Int).toNat t113) := ⟨_, rfl⟩
          replace H : (spec_l3DrawRight.l0 k1 (wrap64 (x4_1 + 1)) s0_0 t114 t115 y117 t105) = some (r1, r2, r3, r4) := yH H hy117
          have Ny117 := Aside0.mk hy117
          clear hy117
          have H' := Aside0.mk H
          clear H
          go_wp2_with (first | (refine goesM 41 15 Try.func41 #[.agg #[.slice Aox1 x107000_1.length cox1, .int .i64 t105], .int .i64 t113] ?_; refine (spec_KeyOf.calls k1 _ _ x107000_1 t105 t113 t116 _ (cX (Kd.R_reads' HO_y1.out).2.2) ((Kd.R_reads' HO_y1.out).2.1) A12.out).mono ?_; rintro e wx2 ⟨rfl, hb⟩; refine ⟨_, rfl, ?_⟩; replace HO_y1 := Aside0.mk (Kd.R_below (rX HO_y1.out) hb); replace BKz1 := Aside0.mk (blk_below (bX BKz1.out) hb); replace BKz2 := Aside0.mk (blk_below (bX BKz2.out) hb); replace HK := Aside0.mk (KeepBut.trans (kX HK.out) (KeepBut.of_below hb g none) (.inl rfl)); replace HB := Aside0.mk (below_step (hY HB.out (IsS124.ge HI0.out)) hb); replace HI0 := Aside0.mk (IsS124.below (i124 HI0.out) hb); clear hb; obtain ⟨hczx3, hczx4, hfzx3, hfzx4⟩ := cZ2 BKz2.out; have px1 : 0 ≤ (x4_1 : Int) := of_decide_eq_true (by first | (with_reducible assumption) | assumption); have qx1 : (x4_1 : Int) < ((x107000_1.length : Int) : Int) := of_decide_eq_true (by first | (with_reducible assumption) | assumption); obtain ⟨gox1, cox2, eox2, gbx1, glx1, clx1, HGx1⟩ := Kd.R_form HO_y1.out (by omega); (first | cases eox2 | (injection eox2 with ea_ en_ ec_; (first | subst ea_ | (injection ea_ with ea_; subst ea_)); subst ec_; clear en_)); have GBx1 := Aside0.mk gbx1; have GGx1 := Aside0.mk HGx1; clear gbx1 glx1 HGx1; obtain ⟨hxx1, hfx1⟩ := Kd.R_celln 0 HO_y1.out (x4_1 : Int) px1 qx1; replace px1 := eq_true px1; replace qx1 := eq_true qx1; obtain ⟨hyx1, hzx1⟩ := Kd.R_celln 0 HO_y1.out (x4_1 : Int) (of_decide_eq_true (by first | (with_reducible assumption) | assumption)) (of_decide_eq_true (by first | (with_reducible assumption) | assumption)); have HPx1 := Kd.R_putg HO_y1.out (x4_1 : Int) t113) | ((with_reducible refine gate_store (t := 3) (p := 21) rfl ?_); refine store_event (t := 3) (p := 21) (v := ?vo_wx3) (w1 := (wx2.setCell ⟨gox1, (x4_1 : Int).toNat, none⟩ (.int .i64 t113))) ?hg ?ho ?hn ?hr ?_; (case ho => rfl); (case hg => rfl); (case hn => rfl); (case hr => first | (go_simp; done) | (go_simp; rfl)); intro wx3 hw; have hg : wx2.grownBy wx3 (some gox1) := (by rw [hw]; exact HPx1.2); have hp_ : Kd.R (Kd.int .i64) 3 wx3 w.heap.size (fun _ => True) (.slice (some ⟨gox1, 0, none⟩) x107000_1.length cox1) y117 := (by rw [hw, Ny117.out]; exact HPx1.1); clear HPx1; replace BKz1 := Aside0.mk (blk_grown (g := gbz1) (o := .cells #[.slice none 0 0, .int .i64 0] 24 (0, 0)) (bX BKz1.out) hg (Kd.R_ne HO_y1.out BKz1.out (by decide))); replace BKz2 := Aside0.mk (blk_grown (g := gbz2) (o := .cells #[.slice (some ⟨gox1, 0, none⟩) x107000_1.length cox1, .int .i64 t105] 24 (0, 0)) (bX BKz2.out) hg (Kd.R_ne HO_y1.out BKz2.out (by decide))); replace HI0 := Aside0.mk (IsS124.grown (i124 HI0.out) hg (IsS124.own_ne HI0.out HO_y1.out (by decide))); replace HB := Aside0.mk ((by rw [hw]; exact below_set (HB.out) (Nat.le_trans HL.out GBx1.out) : Below w0.heap.size w0 wx3)); replace HK := Aside0.mk (KeepBut.trans (kX HK.out) (KeepBut.of_grown hg g) (Kd.R_base2 HO_y1.out)); replace HO_y1 := Aside0.mk (hp_); clear hg hw hp_))
          go_roundg k1
          case measure => have := HKy1.out; omega
          case rel => exact ⟨(wrap64 (x4_1 + 1)), (t114), (t115), (y117), (.slice (some ⟨gox1, 0, none⟩) x107000_1.length cox1), rS, H', ⟨by have := HKy1.out; omega⟩, ⟨(rX HO_y1.out)⟩, ⟨(bX BKz1.out)⟩, ⟨(bX BKz2.out)⟩, ⟨(i124 HI0.out)⟩, ⟨(kX HK.out)⟩, ⟨(hY HB.out (IsS124.ge HI0.out))⟩⟩
        · rw [if_neg c13] at H
          have c13b0 := decide_eq_false c13
          clear c13
          have H' := Aside0.mk H
          clear H
          go_wp2_with (first | (refine goesM 41 15 Try.func41 #[.agg #[.slice Aox1 x107000_1.length cox1, .int .i64 t105], .int .i64 t113] ?_; refine (spec_KeyOf.calls k1 _ _ x107000_1 t105 t113 t116 _ (cX (Kd.R_reads' HO_y1.out).2.2) ((Kd.R_reads' HO_y1.out).2.1) A12.out).mono ?_; rintro e wx2 ⟨rfl, hb⟩; refine ⟨_, rfl, ?_⟩; replace HO_y1 := Aside0.mk (Kd.R_below (rX HO_y1.out) hb); replace BKz1 := Aside0.mk (blk_below (bX BKz1.out) hb); replace BKz2 := Aside0.mk (blk_below (bX BKz2.out) hb); replace HK := Aside0.mk (KeepBut.trans (kX HK.out) (KeepBut.of_below hb g none) (.inl rfl)); replace HB := Aside0.mk (below_step (hY HB.out (IsS124.ge HI0.out)) hb); replace HI0 := Aside0.mk (IsS124.below (i124 HI0.out) hb); clear hb))
          go_roundg k1
          case measure => have := HKy1.out; omega
          case rel => exact ⟨(wrap64 (x4_1 + 1)), (t114), (t115), (x107000_1), (.slice Aox1 x107000_1.length cox1), rS, H', ⟨by have := HKy1.out; omega⟩, ⟨(rX HO_y1.out)⟩, ⟨(bX BKz1.out)⟩, ⟨(bX BKz2.out)⟩, ⟨(i124 HI0.out)⟩, ⟨(kX HK.out)⟩, ⟨(hY HB.out (IsS124.ge HI0.out))⟩⟩
      · rw [if_neg c10] at H
        have c10b0 := decide_eq_false c10
        clear c10
        obtain ⟨y107, hy107⟩ : ∃ y_ : List Int, y_ = (([0, 0, 1, 3, 5] : List Int)) := ⟨_, rfl⟩
        replace H : ((spec_l1PickInt.f s0_0 x1001_1 x1002_1 y107).bind fun bt110 => (some (x107000_1, bt110.1, bt110.2.1, bt110.2.2))) = some (r1, r2, r3, r4) := yH H hy107
        have Ny107 := Aside0.mk hy107
        clear hy107
        replace H := bE H; obtain ⟨⟨t110, t111, t112⟩, A32, H⟩ := H
        try dsimp only at H
        simp only [Option.some.injEq, Prod.mk.injEq] at H
        obtain ⟨rfl, rfl, rfl, rfl⟩ := H
        go_wp2_with (first | ((with_reducible refine gate_dst (N := 23) rfl ?_); refine Kd.R_lit (Kd.int .i64) _ 3 ?hg (N := 23) ?hd (xs := ([0, 0, 1, 3, 5] : List Int)) (inner := [.int .i64 0, .int .i64 0, .int .i64 1, .int .i64 3, .int .i64 5]) (ok := fun _ => True) (okp := fun _ => True) ?hr ?hp (fun _ hk => hk) trivial (Below.refl _ _) (Nat.le_refl _) (by simp) ?_; (case hd => rfl); (case hg => rfl); (case hr => first | (go_simp; done) | (go_simp; rfl)); (case hp => exact (Reps.one (show Kd.M (Kd.int .i64) _ _ _ 0 [.int .i64 0] from rfl) (Reps.one (show Kd.M (Kd.int .i64) _ _ _ 0 [.int .i64 0] from rfl) (Reps.one (show Kd.M (Kd.int .i64) _ _ _ 1 [.int .i64 1] from rfl) (Reps.one (show Kd.M (Kd.int .i64) _ _ _ 3 [.int .i64 3] from rfl) (Reps.one (show Kd.M (Kd.int .i64) _ _ _ 5 [.int .i64 5] from rfl) (Reps.none _ _))))))); intro vx1 wx1 hox1 hb hg_ hnew_; clear hg_ hnew_; (first | rw [← Ny107.out] at hox1 | (simp only [Int.reduceToNat] at hox1; rw [← Ny107.out] at hox1)); have HOx1 := Aside0.mk (Kd.R_lower (Kd.R_new' hox1 (Kd.R_lt (rX HO_y1.out))) (keep_size (w := w) (g := g) (row := none) (kX HK.out))); replace HO_y1 := Aside0.mk (Kd.R_elder' (rX HO_y1.out) (Kd.R_base hox1) hb); replace BKz1 := Aside0.mk (blk_below (bX BKz1.out) hb); replace BKz2 := Aside0.mk (blk_below (bX BKz2.out) hb); replace HK := Aside0.mk (KeepBut.trans (kX HK.out) (KeepBut.of_below hb g none) (.inl rfl)); replace HB := Aside0.mk (below_step (hY HB.out (IsS124.ge HI0.out)) hb); replace HI0 := Aside0.mk (IsS124.below (i124 HI0.out) hb); clear hb hox1; obtain ⟨Aox1, cox1, eox1⟩ := Kd.R_slice HOx1.out; subst eox1) | (refine goesM 125 24 Try.func125 #[.pointer (some ⟨g, 0, none⟩), .slice Aox1 y107.length cox1] ?_; refine (spec_l1PickInt.calls g s0_0 x1001_1 x1002_1 _ _ y107 t110 t111 t112 w0 _ (by repeat (first | (with_reducible first | exact HI0.out | apply IsS124.alloc | apply IsS124.drewN | apply IsS124.drew | apply IsS124.set_1 | apply IsS124.set_2 | refine IsS124.far ?_ NBz1.out _ | refine IsS124.far ?_ NBz5.out _) | exact HI0.out)) (by repeat (first | (with_reducible first | exact HB.out | apply below_alloc | apply pw_below_drewN | apply below_drew1 | refine below_set ?_ (IsS124.ge HI0.out) | refine below_set ?_ GEz1.out | refine below_set ?_ GEz2.out) | exact HB.out)) (cX (Kd.R_reads' HOx1.out).2.2) ((Kd.R_reads' HOx1.out).2.1) (by exact far_slice (IsS124.own_ne HI0.out HOx1.out (by decide))) A32.out).mono ?_; rintro e wx2 ⟨rfl, hi, hb, hk⟩; refine ⟨_, rfl, ?_⟩; replace HO_y1 := Aside0.mk (Kd.R_mono (Kd.R_keep (IsS124.apart (show IsS124 w0 _ g s0_0 x1001_1 x1002_1 from (i124 HI0.out)) (rX HO_y1.out) (by decide)) hk (fun _ h => h.2)) (fun _ h => h.1)); replace BKz1 := Aside0.mk (KeepBut.blk hk (g' := gbz1) (o := .cells #[.slice none 0 0, .int .i64 0] 24 (0, 0)) (bX BKz1.out) NBz2.out (by simp)); replace BKz2 := Aside0.mk (KeepBut.blk hk (g' := gbz2) (o := .cells #[u107000, .int .i64 t105] 24 (0, 0)) (bX BKz2.out) NBz6.out (by simp)); replace HOx1 := Aside0.mk (Kd.R_mono (Kd.R_keep (IsS124.apart (show IsS124 w0 _ g s0_0 x1001_1 x1002_1 from (i124 HI0.out)) (rX HOx1.out) (by decide)) hk (fun _ h => h.2)) (fun _ h => h.1)); replace HK := Aside0.mk (KeepBut.trans (kX HK.out) hk (.inl rfl)); replace HB := Aside0.mk (hb); replace HI0 := Aside0.mk (hi); clear hb hk hi; have hnbx1 := NBz4.out; have hncx1 := NBz3.out; have hnbx2 := NBz6.out; have hncx2 := NBz5.out; obtain ⟨hczx1, hczx2, hfzx1, hfzx2⟩ := cZ2 BKz2.out; obtain ⟨Aox2, cox2, eox2⟩ := Kd.R_slice HO_y1.out; subst eox2; have hnbx3 := NBz2.out; have hncx3 := NBz1.out; obtain ⟨hczx3, hczx4, hfzx3, hfzx4⟩ := cZ2 BKz1.out))
        refine bodyPost_ret (results_cell_row rfl _ _ gbz1 24 #[.slice Aox2 x107000_1.length cox2, .int .i64 t110] (0, 0) _ rfl (bP BKz1.out) Try.underlying24 rfl (by kernel_rfl)) rfl ?_
        exact ⟨_, rE, (rT (h := by exact Kd.R_mono (Kd.R_far (p := ⟨gbz1, 1, none⟩) (Kd.R_far (p := ⟨gbz1, 0, none⟩) (Kd.R_far (p := ⟨gbz2, 1, none⟩) (Kd.R_types (Kd.R_types HO_y1.out BKz2.out (by decide)) BKz1.out (by decide)) (fun _ hk => hk.1.2) (.int .i64 t110)) (fun _ hk => hk.2) (.slice Aox2 x107000_1.length cox2)) (fun _ hk => hk.2) (.int .i64 t110)) (fun _ hk => trivial))), (i124 HI0.out), (hY HB.out (IsS124.ge HI0.out)), (kX HK.out)⟩
end Go.Proofs.Yteamagejhbkhnaa.P
namespace Go.Proofs.Yteamagejhbkhnaa.P
open Go.Proofs.YteamagejhbkhnaaZ Go.RowKit Go.Proofs.YteamagejhbkhnaaW.PrintWords Go.Proofs.YteamagejhbkhnaaW.PrintLast Go.Proofs.YteamagejhbkhnaaW.PrintMore
attribute [local go_sem] max2_int min2_int max_two min_two max_three min_three max_four min_four   -- for this text's walks alone
set_option linter.unusedVariables false
set_option linter.unusedSimpArgs false
def spec_l3Draw.f (k : Nat) (s0_0 : List Int) (s0_1 : Int) (s0_2 : Int) : Option (List Int × Int × Int × Int) := (spec_l3DrawRight.f k s0_0 s0_1 s0_2).bind fun bt102 => ((spec_l1Below.f s0_0 bt102.2.2.1 bt102.2.2.2 8).bind fun bt109 => (if bt109.1 = 0 then ((spec_l1PickInt.f s0_0 bt109.2.1 bt109.2.2 (([(-1), 6, 7] : List Int))).bind fun bt115 => (if 1 < (bt102.1.length : Int) then (some ((bt102.1.set (1 : Int).toNat bt115.1), bt102.2.1, bt115.2.1, bt115.2.2)) else (none))) else (if bt109.1 = 1 then (if 0 < (bt102.1.length : Int) then (if 3 < (bt102.1.length : Int) then (some (((bt102.1.set (0 : Int).toNat 3).set (3 : Int).toNat 3), bt102.2.1, bt109.2.1, bt109.2.2)) else (none)) else (none)) else (if bt109.1 = 2 then ((spec_l1PickInt.f s0_0 bt109.2.1 bt109.2.2 (([(-1), 5, 6] : List Int))).bind fun bt124 => (some (bt102.1, bt124.1, bt124.2.1, bt124.2.2))) else (if bt109.1 = 3 then (if 2 ≤ (bt102.1.length : Int) then (some ((bt102.1.take (2 : Int).toNat), bt102.2.1, bt109.2.1, bt109.2.2)) else (none)) else (some (bt102.1, bt102.2.1, bt109.2.1, bt109.2.2)))))))
set_option maxHeartbeats 8000000 in
set_option maxRecDepth 100000 in
theorem spec_l3Draw.calls (k : Nat) (g : Nat) (s0_0 : List Int) (s0_1 : Int) (s0_2 : Int) (r1 : List Int) (r2 : Int) (r3 : Int) (r4 : Int) (w0 w : World) (hI : IsS124 w0 w g s0_0 s0_1 s0_2) (hB : Below w0.heap.size w0 w) (h : spec_l3Draw.f k s0_0 s0_1 s0_2 = some (r1, r2, r3, r4)) :
    Calls Try.prog 85 #[.pointer (some ⟨g, 0, none⟩)] w fun e w' => ∃ v0_ : Value, e = .returned (.agg #[v0_, .int .i64 r2]) ∧ Kd.R (Kd.int .i64) 3 w' w.heap.size (fun _ => True) v0_ r1 ∧ IsS124 w0 w' g s0_0 r3 r4 ∧ Below w0.heap.size w0 w' ∧ KeepBut w w' g none := by
  have hu24 := Try.underlying24
  have HI0 := Aside0.mk hI
  have HK := Aside0.mk (KeepBut.refl w g none)
  have HL := Aside0.mk hB.size
  clear hI
  have HW0 := Aside0.mk hB.size
  have HB := Aside0.mk hB
  clear hB
  have H := h
  unfold spec_l3Draw.f at H
  clear h
  replace H := bE H; obtain ⟨⟨t102, t105, t106, t107⟩, A2, H⟩ := H
  try dsimp only at H
  replace H := bE H; obtain ⟨⟨t109, t110, t111⟩, A3, H⟩ := H
  try dsimp only at H
  go_enter Try.func85, Try.ntmps85
  go_wp2_with (first | (refine boxE 2 #[.slice none 0 0, .int .i64 0] 24 ?_; intro gbz1 hg wz1 hbox hb; have BKz1 := Aside0.mk (hbox); have GWz1 := Aside0.mk ((by rw [hg]; exact (keep_size (w := w) (g := g) (row := none) (kX HK.out)) : w.heap.size ≤ gbz1)); have GEz1 := Aside0.mk ((Nat.le_trans HW0.out (by rw [hg]; exact (keep_size (w := w) (g := g) (row := none) (kX HK.out)) : w.heap.size ≤ gbz1) : w0.heap.size ≤ gbz1)); have NBz1 := Aside0.mk ((by rw [hg]; exact Nat.ne_of_lt (IsS124.lt (show IsS124 w0 _ g s0_0 s0_1 s0_2 from (i124 HI0.out))) : g ≠ gbz1)); have NBz2 := Aside0.mk ((by rw [hg]; exact Nat.ne_of_gt (IsS124.lt (show IsS124 w0 _ g s0_0 s0_1 s0_2 from (i124 HI0.out))) : gbz1 ≠ g)); replace HK := Aside0.mk (KeepBut.trans (kX HK.out) (KeepBut.of_below hb g none) (.inl rfl)); replace HB := Aside0.mk (below_step (hY HB.out (IsS124.ge HI0.out)) hb); replace HI0 := Aside0.mk (IsS124.below (i124 HI0.out) hb); clear hb hbox hg) | (refine goesM 124 5 Try.func124 #[.pointer (some ⟨g, 0, none⟩)] ?_; refine (spec_l3DrawRight.calls k g s0_0 s0_1 s0_2 t102 t105 t106 t107 w0 _ (by repeat (first | (with_reducible first | exact HI0.out | apply IsS124.alloc | apply IsS124.drewN | apply IsS124.drew | apply IsS124.set_1 | apply IsS124.set_2 | refine IsS124.far ?_ NBz1.out _) | exact HI0.out)) (by repeat (first | (with_reducible first | exact HB.out | apply below_alloc | apply pw_below_drewN | apply below_drew1 | refine below_set ?_ (IsS124.ge HI0.out) | refine below_set ?_ GEz1.out) | exact HB.out)) A2.out).mono ?_; rintro e wz2 ⟨vz1, rfl, hoz1, hi, hb, hk⟩; refine ⟨_, rfl, ?_⟩; have HOz1 := Aside0.mk (Kd.R_lower hoz1 (keep_size (w := w) (g := g) (row := none) (kX HK.out))); replace BKz1 := Aside0.mk (KeepBut.blk hk (g' := gbz1) (o := .cells #[.slice none 0 0, .int .i64 0] 24 (0, 0)) (bX BKz1.out) NBz2.out (by simp)); replace HK := Aside0.mk (KeepBut.trans (kX HK.out) hk (.inl rfl)); replace HB := Aside0.mk (hb); replace HI0 := Aside0.mk (hi); clear hb hk hi hoz1) | (refine boxE 3 #[.slice none 0 0, .int .i64 0] 24 ?_; intro gbz2 hg wz3 hbox hb; have BKz2 := Aside0.mk (hbox); have GWz2 := Aside0.mk ((by rw [hg]; exact (keep_size (w := w) (g := g) (row := none) (kX HK.out)) : w.heap.size ≤ gbz2)); have GEz2 := Aside0.mk ((Nat.le_trans HW0.out (by rw [hg]; exact (keep_size (w := w) (g := g) (row := none) (kX HK.out)) : w.heap.size ≤ gbz2) : w0.heap.size ≤ gbz2)); have NBz3 := Aside0.mk (gL hg (bX BKz1.out)); have NBz4 := Aside0.mk (gG hg (bX BKz1.out)); have NBz5 := Aside0.mk ((by rw [hg]; exact Nat.ne_of_lt (IsS124.lt (show IsS124 w0 _ g s0_0 t106 t107 from (i124 HI0.out))) : g ≠ gbz2)); have NBz6 := Aside0.mk ((by rw [hg]; exact Nat.ne_of_gt (IsS124.lt (show IsS124 w0 _ g s0_0 t106 t107 from (i124 HI0.out))) : gbz2 ≠ g)); replace HOz1 := Aside0.mk (Kd.R_below (rX HOz1.out) hb); replace BKz1 := Aside0.mk (blk_below (bX BKz1.out) hb); replace HK := Aside0.mk (KeepBut.trans (kX HK.out) (KeepBut.of_below hb g none) (.inl rfl)); replace HB := Aside0.mk (below_step (hY HB.out (IsS124.ge HI0.out)) hb); replace HI0 := Aside0.mk (IsS124.below (i124 HI0.out) hb); clear hb hbox hg; obtain ⟨Aoz1, coz1, eoz1⟩ := Kd.R_slice HOz1.out; subst eoz1; have hnbz1 := NBz4.out; have hncz1 := NBz3.out; have hnbz2 := NBz6.out; have hncz2 := NBz5.out; obtain ⟨hczz1, hczz2, hfzz1, hfzz2⟩ := cZ2 BKz2.out; refine Stop.out ?_))
  refine ⟨?_⟩
  by_cases c4 : t109 = 0
  · rw [if_pos c4] at H
    obtain ⟨c4b0, c4b1⟩ := eqT c4
    clear c4
    obtain ⟨y112, hy112⟩ : ∃ y_ : List Int, y_ = (([(-1), 6, 7] : List Int)) := ⟨_, rfl⟩
    replace H : ((spec_l1PickInt.f s0_0 t110 t111 y112).bind fun bt115 => (if 1 < (t102.length : Int) then (some ((t102.set (1 : Int).toNat bt115.1), t105, bt115.2.1, bt115.2.2)) else (none))) = some (r1, r2, r3, r4) := yH H hy112
    have Ny112 := Aside0.mk hy112
    clear hy112
    replace H := bE H; obtain ⟨⟨t115, t116, t117⟩, A5, H⟩ := H
    try dsimp only at H
    replace H := ifP H; obtain ⟨c6, H⟩ := H
    have c6b0 := decide_eq_true c6
    have c6b1 : decide (1 < t102.length) = true := decide_eq_true (by omega)
    clear c6
    obtain ⟨y118, hy118⟩ : ∃ y_ : List Int, y_ = (t102.set (1 : Int).toNat t115) := ⟨_, rfl⟩
    replace H : (some (y118, t105, t116, t117)) = some (r1, r2, r3, r4) := yH H hy118
    have Ny118 := Aside0.mk hy118
    clear hy118
    simp only [Option.some.injEq, Prod.mk.injEq] at H
    obtain ⟨rfl, rfl, rfl, rfl⟩ := H
    try go_wp2_with (first | (refine goesM 88 7 Try.func88 #[.pointer (some ⟨g, 0, none⟩), .int .i64 8] ?_; refine (spec_l1Below.calls g s0_0 t106 t107 8 t109 t110 t111 w0 _ (by repeat (first | (with_reducible first | exact HI0.out | apply IsS124.alloc | apply IsS124.drewN | apply IsS124.drew | apply IsS124.set_1 | apply IsS124.set_2 | refine IsS124.far ?_ NBz1.out _ | refine IsS124.far ?_ NBz5.out _) | exact HI0.out)) (by repeat (first | (with_reducible first | exact HB.out | apply below_alloc | apply pw_below_drewN | apply below_drew1 | refine below_set ?_ (IsS124.ge HI0.out) | refine below_set ?_ GEz1.out | refine below_set ?_ GEz2.out) | exact HB.out)) A3.out).mono ?_; rintro e wz4 ⟨rfl, hi, hb, hk⟩; refine ⟨_, rfl, ?_⟩; replace BKz1 := Aside0.mk (KeepBut.blk hk (g' := gbz1) (o := .cells #[.slice none 0 0, .int .i64 0] 24 (0, 0)) (bF BKz1.out) NBz2.out (by simp)); replace HOz1 := Aside0.mk (Kd.R_mono (Kd.R_keep (IsS124.apart (show IsS124 w0 _ g s0_0 t106 t107 from (i124 HI0.out)) (rT (h := by exact (Kd.R_mono (Kd.R_far (p := ⟨gbz2, 1, none⟩) (Kd.R_far (p := ⟨gbz2, 0, none⟩) (Kd.R_types HOz1.out BKz2.out (by decide)) (fun _ hk => hk.2) (.slice Aoz1 t102.length coz1)) (fun _ hk => hk.2) (.int .i64 t105)) (fun _ h_ => h_.1)))) (by decide)) hk (fun _ h => h.2)) (fun _ h => h.1)); replace BKz2 := Aside0.mk (KeepBut.blk hk (g' := gbz2) (o := .cells #[.slice Aoz1 t102.length coz1, .int .i64 t105] 24 (0, 0)) (bP BKz2.out) NBz6.out (by simp)); replace HK := Aside0.mk (KeepBut.trans (kX HK.out) hk (.inl rfl)); replace HB := Aside0.mk (hb); replace HI0 := Aside0.mk (hi); clear hb hk hi))
    replace HOz1 := Aside0.mk (Kd.R_drew HOz1.out)
    replace BKz1 := Aside0.mk (blk_drew BKz1.out)
    replace BKz2 := Aside0.mk (blk_drew BKz2.out)
    replace HI0 := Aside0.mk (IsS124.drew HI0.out)
    replace HK := Aside0.mk (keep_drew HK.out)
    replace HB := Aside0.mk (below_drew1 HB.out)
    refine start_ (n := 7) (S := fun w' => w'.cell? ⟨gbz2, 0, none⟩ = some (.slice Aoz1 t102.length coz1) ∧ w'.cell? ⟨gbz2, 1, none⟩ = some (.int .i64 t105)) (ds := [6]) (bm 7 0) (by kernel_rfl) rfl (by kernel_rfl) ⟨cK BKz2.out 0, cK BKz2.out 1⟩ (fun hHeld => ?_)
    generalize wz4.drew = wz5 at HOz1 BKz1 BKz2 HI0 HK HB hHeld ⊢
    refine pK 0 10 (bm 7 1) ?_
    refine pK 2 12 (bm 7 5) ?_
    refine tK 1 11 (bm 7 7) hHeld ?_
    refine oK 3 (some 13) (bm 7 15) (fun K hK => ?_)
    refine Kd.R_lit_step (Kd.int .i64) _ 3 ?hg (N := 13) ?hd (xs := ([(-1), 6, 7] : List Int)) (inner := [.int .i64 (-1), .int .i64 6, .int .i64 7]) (ok := fun _ => True) (okp := fun _ => True) ?hr ?hp (fun _ hk => hk) trivial (Below.refl _ _) (Nat.le_refl _) (by simp) ?_; (case hd => rfl); (case hg => rfl); (case hr => first | (go_simp; done) | (go_simp; rfl)); (case hp => exact (Reps.one (show Kd.M (Kd.int .i64) _ _ _ (-1) [.int .i64 (-1)] from rfl) (Reps.one (show Kd.M (Kd.int .i64) _ _ _ 6 [.int .i64 6] from rfl) (Reps.one (show Kd.M (Kd.int .i64) _ _ _ 7 [.int .i64 7] from rfl) (Reps.none _ _)))))
    intro vz2 wz6 hoz2 hb hg_ hnew_
    clear hg_ hnew_
    (first | rw [← Ny112.out] at hoz2 | (simp only [Int.reduceToNat] at hoz2; rw [← Ny112.out] at hoz2))
    have HOz2 := Aside0.mk (Kd.R_lower (Kd.R_new' hoz2 (Kd.R_lt (rX HOz1.out))) (keep_size (w := w) (g := g) (row := none) (kX HK.out)))
    replace HOz1 := Aside0.mk (Kd.R_elder' (rX HOz1.out) (Kd.R_base hoz2) hb)
    replace BKz1 := Aside0.mk (blk_below (bX BKz1.out) hb)
    replace BKz2 := Aside0.mk (blk_below (bX BKz2.out) hb)
    replace HK := Aside0.mk (KeepBut.trans (kX HK.out) (KeepBut.of_below hb g none) (.inl rfl))
    replace HB := Aside0.mk (below_step (hY HB.out (IsS124.ge HI0.out)) hb)
    replace HI0 := Aside0.mk (IsS124.below (i124 HI0.out) hb)
    clear hb hoz2
    obtain ⟨Aoz2, coz2, eoz2⟩ := Kd.R_slice HOz2.out
    (first | subst eoz2 | (injection eoz2 with f1_ f2_ f3_; have fz1 := f1_.symm; have fz2 := f3_.symm; clear f1_ f2_ f3_; subst fz1; subst fz2))
    refine hK.out _ _ ⟨cK BKz2.out 0, cK BKz2.out 1⟩ (fun hHeld => ?_)
    clear hK K
    refine nZ 13 ?_
    refine oK 4 (some 14) (bm 7 31) (fun K hK => ?_)
    refine goesN Try.func125 #[.pointer (some ⟨g, 0, none⟩), .slice Aoz2 y112.length coz2] ?_
    with_reducible refine (spec_l1PickInt.calls g s0_0 t110 t111 _ _ y112 t115 t116 t117 w0 _ ?side1 ?side2 ?side3 ?side4 ?side5 A5.out).mono ?_
    (case side1 => repeat (first | (with_reducible first | exact HI0.out | apply IsS124.alloc | apply IsS124.drewN | apply IsS124.drew | apply IsS124.set_1 | apply IsS124.set_2 | refine IsS124.far ?_ NBz1.out _ | refine IsS124.far ?_ NBz5.out _) | exact HI0.out))
    (case side2 => repeat (first | (with_reducible first | exact HB.out | apply below_alloc | apply pw_below_drewN | apply below_drew1 | refine below_set ?_ (IsS124.ge HI0.out) | refine below_set ?_ GEz1.out | refine below_set ?_ GEz2.out) | exact HB.out))
    (case side3 => repeat (first | exact (Kd.R_reads' HOz2.out).2.2 | (with_reducible refine Kd.C_alloc ?_ _) | (with_reducible refine Kd.C_drewN ?_ _) | (with_reducible refine Kd.C_drew ?_)))
    (case side4 => exact (Kd.R_reads' HOz2.out).2.1)
    (case side5 => exact far_slice (IsS124.own_ne HI0.out HOz2.out (by decide)))
    rintro e wz7 ⟨rfl, hi, hb, hk⟩
    refine ⟨_, rfl, ?_⟩
    replace BKz1 := Aside0.mk (KeepBut.blk hk (g' := gbz1) (o := .cells #[.slice none 0 0, .int .i64 0] 24 (0, 0)) (bX BKz1.out) NBz2.out (by simp))
    replace HOz1 := Aside0.mk (Kd.R_mono (Kd.R_keep (IsS124.apart (show IsS124 w0 _ g s0_0 t110 t111 from (i124 HI0.out)) (rX HOz1.out) (by decide)) hk (fun _ h => h.2)) (fun _ h => h.1))
    replace BKz2 := Aside0.mk (KeepBut.blk hk (g' := gbz2) (o := .cells #[.slice Aoz1 t102.length coz1, .int .i64 t105] 24 (0, 0)) (bX BKz2.out) NBz6.out (by simp))
    replace HOz2 := Aside0.mk (Kd.R_mono (Kd.R_keep (IsS124.apart (show IsS124 w0 _ g s0_0 t110 t111 from (i124 HI0.out)) (rX HOz2.out) (by decide)) hk (fun _ h => h.2)) (fun _ h => h.1))
    replace HK := Aside0.mk (KeepBut.trans (kX HK.out) hk (.inl rfl))
    replace HB := Aside0.mk (hb)
    replace HI0 := Aside0.mk (hi)
    (try clear hb)
    (try clear hb2)
    (try clear hk)
    (try clear hi)
    have pz1 : 0 ≤ (1 : Int) := (by omega)
    have qz1 : (1 : Int) < ((t102.length : Int) : Int) := of_decide_eq_true (by first | (with_reducible assumption) | assumption)
    have qiz1 : (1 < t102.length) = True := eq_true (by omega)
    obtain ⟨goz1, coz3, eoz3, gbz3, glz1, clz1, HGz1⟩ := Kd.R_form HOz1.out (by omega)
    (first | cases eoz3 | (injection eoz3 with ea_ en_ ec_; (first | subst ea_ | (injection ea_ with ea_; subst ea_)); subst ec_; clear en_))
    have GBz1 := Aside0.mk gbz3
    have GGz1 := Aside0.mk HGz1
    clear gbz3 glz1 HGz1
    obtain ⟨hxz1, hfz1⟩ := Kd.R_celln 0 HOz1.out (1 : Int) pz1 qz1
    (try rw [show ((1 : Int)).toNat = 1 from rfl] at hxz1)
    (try simp only [Nat.reduceMul, Nat.zero_mul, Nat.zero_add, Nat.reduceAdd] at hxz1)
    (try rw [show ((1 : Int)).toNat = 1 from rfl] at hfz1)
    (try simp only [Nat.reduceMul, Nat.zero_mul, Nat.zero_add, Nat.reduceAdd] at hfz1)
    replace pz1 := eq_true pz1
    replace qz1 := eq_true qz1
    have HN0_go7 := Aside0.mk (show g ≠ goz1 from by have h_ := IsS124.own_ne HI0.out HOz1.out (by decide); intro e_; exact h_ (by rw [e_]; rfl))
    have HPz1 := Kd.R_putn HOz1.out (1 : Int) t115
    rw [← Ny118.out] at HPz1
    have HQz1 := Aside0.mk HPz1
    clear HPz1
    refine hK.out _ _ ⟨cK BKz2.out 0, cK BKz2.out 1⟩ (fun hHeld => ?_)
    clear hK K
    refine nZ 14 ?_
    refine pK 5 15 (bm 7 63) ?_
    refine last_ (i := 6) (N := none) #[true, true, true, true, true, true, true] rfl rfl (by kernel_rfl) (by decide) (fun K hK => ?_)
    refine skip_ (w1 := ?_) (by rfl) rfl ?_ ?_
    rotate_left
    · go_simp
      rfl
    refine hK.out _ _ ?_
    clear hK K
    refine done_ (by kernel_rfl) ?_
    have nz1 : Aside0 (Kd.R (Kd.int .i64) 3 (wz7.setCell ⟨goz1, 1, none⟩ (.int .i64 t115)) w.heap.size (fun k_ => some k_ ≠ (.slice Aoz2 y112.length coz2 : Value).ownBlock) (.slice (some ⟨goz1, 0, none⟩) t102.length coz1) y118) := ⟨(rT (h := by exact Kd.R_mono HQz1.out (fun _ hk => hk.2)))⟩
    have nz2 : Aside0 (Kd.R (Kd.int .i64) 3 (wz7.setCell ⟨goz1, 1, none⟩ (.int .i64 t115)) w.heap.size (fun k_ => some k_ ≠ (.slice (some ⟨goz1, 0, none⟩) t102.length coz1 : Value).ownBlock) (.slice Aoz2 y112.length coz2) y112) := ⟨(rT (h := by exact Kd.R_mono (Kd.R_far (p := ⟨goz1, 1, none⟩) (Kd.R_mono HOz2.out (fun k_ hk => (⟨hk, fun e_ => hk.2 (by rw [e_]; rfl)⟩ : _ ∧ k_ ≠ goz1))) (fun _ hk => hk.2) (.int .i64 t115)) (fun _ hk => hk.1.2)))⟩
    have nz3 : Aside0 ((wz7.setCell ⟨goz1, 1, none⟩ (.int .i64 t115)).heap[gbz1]? = some (.cells #[.slice none 0 0, .int .i64 0] 24 (0, 0))) := ⟨by (with_reducible repeat (first | refine blk_drewN ?_ _ | refine blk_drew ?_ | refine blk_alloc ?_ _)); refine blk_far ?_ (by have h_ := Kd.R_ne HOz1.out BKz1.out (by decide); intro e_; exact h_ (by rw [e_]; rfl)) _; (with_reducible repeat (first | refine blk_drewN ?_ _ | refine blk_drew ?_ | refine blk_alloc ?_ _)); exact BKz1.out⟩
    have nz4 : Aside0 ((wz7.setCell ⟨goz1, 1, none⟩ (.int .i64 t115)).heap[gbz2]? = some (.cells #[.slice (some ⟨goz1, 0, none⟩) t102.length coz1, .int .i64 t105] 24 (0, 0))) := ⟨by (with_reducible repeat (first | refine blk_drewN ?_ _ | refine blk_drew ?_ | refine blk_alloc ?_ _)); refine blk_far ?_ (by have h_ := Kd.R_ne HOz1.out BKz2.out (by decide); intro e_; exact h_ (by rw [e_]; rfl)) _; (with_reducible repeat (first | refine blk_drewN ?_ _ | refine blk_drew ?_ | refine blk_alloc ?_ _)); exact BKz2.out⟩
    have nz5 : Aside0 (IsS124 w0 (wz7.setCell ⟨goz1, 1, none⟩ (.int .i64 t115)) g s0_0 t116 t117) := ⟨(i124 HI0.out)⟩
    have nz6 : Aside0 (KeepBut w (wz7.setCell ⟨goz1, 1, none⟩ (.int .i64 t115)) g none) := ⟨(kX HK.out)⟩
    have nz7 : Aside0 (Below w0.heap.size w0 (wz7.setCell ⟨goz1, 1, none⟩ (.int .i64 t115))) := ⟨by repeat (first | (with_reducible first | exact HB.out | apply below_alloc | apply pw_below_drewN | apply below_drew1 | refine below_set ?_ (Nat.le_trans HL.out GBz1.out) | refine below_set ?_ (IsS124.ge HI0.out) | refine below_set ?_ GEz1.out | refine below_set ?_ GEz2.out) | exact HB.out)⟩
    (try clear HOz1)
    (try clear HOz2)
    (try clear BKz1)
    (try clear BKz2)
    (try clear HI0)
    (try clear HK)
    (try clear HB)
    generalize (wz7.setCell ⟨goz1, 1, none⟩ (.int .i64 t115)) = wz8 at nz1 nz2 nz3 nz4 nz5 nz6 nz7 ⊢
    have HOz1 := nz1
    have HOz2 := nz2
    have BKz1 := nz3
    have BKz2 := nz4
    have HI0 := nz5
    have HK := nz6
    have HB := nz7
    clear nz1 nz2 nz3 nz4 nz5 nz6 nz7
    obtain ⟨hczz3, hczz4, hfzz3, hfzz4⟩ := cZ2 BKz2.out
    have hnbz3 := NBz2.out
    have hncz3 := NBz1.out
    obtain ⟨hczz5, hczz6, hfzz5, hfzz6⟩ := cZ2 BKz1.out
    try go_wp2
    refine bodyPost_ret (results_cell_row rfl _ _ gbz1 24 #[.slice (some ⟨goz1, 0, none⟩) t102.length coz1, .int .i64 t105] (0, 0) _ rfl (bP BKz1.out) Try.underlying24 rfl (by kernel_rfl)) rfl ?_
    exact ⟨_, rE, (rT (h := by exact Kd.R_mono (Kd.R_far (p := ⟨gbz1, 1, none⟩) (Kd.R_far (p := ⟨gbz1, 0, none⟩) (Kd.R_types HOz1.out BKz1.out (by decide)) (fun _ hk => hk.2) (.slice (some ⟨goz1, 0, none⟩) t102.length coz1)) (fun _ hk => hk.2) (.int .i64 t105)) (fun _ hk => trivial))), (i124 HI0.out), (hY HB.out (IsS124.ge HI0.out)), (kX HK.out)⟩
  · rw [if_neg c4] at H
    obtain ⟨c4b0, c4b1⟩ := eqF c4
    by_cases c26 : t109 = 1
    · rw [if_pos c26] at H
      obtain ⟨c26b0, c26b1⟩ := eqT c26
      clear c26
      replace H := ifP H; obtain ⟨c27, H⟩ := H
      have c27b0 := decide_eq_true c27
      have c27b1 : decide (0 < t102.length) = true := decide_eq_true (by omega)
      clear c27
      obtain ⟨y119, hy119⟩ : ∃ y_ : List Int, y_ = (t102.set (0 : Int).toNat 3) := ⟨_, rfl⟩
      replace H : (if 3 < (t102.length : Int) then (some ((y119.set (3 : Int).toNat 3), t105, t110, t111)) else (none)) = some (r1, r2, r3, r4) := yH H hy119
      have Ny119 := Aside0.mk hy119
      clear hy119
      replace H := ifP H; obtain ⟨c29, H⟩ := H
      have c29b0 := decide_eq_true c29
      have c29b1 : decide (3 < t102.length) = true := decide_eq_true (by omega)
      clear c29
      obtain ⟨y120, hy120⟩ : ∃ y_ : List Int, y_ = (y119.set (3 : Int).toNat 3) := ⟨_, rfl⟩
      replace H : (some (y120, t105, t110, t111)) = some (r1, r2, r3, r4) := yH H hy120
      have Ny120 := Aside0.mk hy120
      clear hy120
      simp only [Option.some.injEq, Prod.mk.injEq] at H
      obtain ⟨rfl, rfl, rfl, rfl⟩ := H
      go_wp2_with (first | (refine goesM 88 7 Try.func88 #[.pointer (some ⟨g, 0, none⟩), .int .i64 8] ?_; refine (spec_l1Below.calls g s0_0 t106 t107 8 t109 t110 t111 w0 _ (by repeat (first | (with_reducible first | exact HI0.out | apply IsS124.alloc | apply IsS124.drewN | apply IsS124.drew | apply IsS124.set_1 | apply IsS124.set_2 | refine IsS124.far ?_ NBz1.out _ | refine IsS124.far ?_ NBz5.out _) | exact HI0.out)) (by repeat (first | (with_reducible first | exact HB.out | apply below_alloc | apply pw_below_drewN | apply below_drew1 | refine below_set ?_ (IsS124.ge HI0.out) | refine below_set ?_ GEz1.out | refine below_set ?_ GEz2.out) | exact HB.out)) A3.out).mono ?_; rintro e wz4 ⟨rfl, hi, hb, hk⟩; refine ⟨_, rfl, ?_⟩; replace BKz1 := Aside0.mk (KeepBut.blk hk (g' := gbz1) (o := .cells #[.slice none 0 0, .int .i64 0] 24 (0, 0)) (bF BKz1.out) NBz2.out (by simp)); replace HOz1 := Aside0.mk (Kd.R_mono (Kd.R_keep (IsS124.apart (show IsS124 w0 _ g s0_0 t106 t107 from (i124 HI0.out)) (rT (h := by exact (Kd.R_mono (Kd.R_far (p := ⟨gbz2, 1, none⟩) (Kd.R_far (p := ⟨gbz2, 0, none⟩) (Kd.R_types HOz1.out BKz2.out (by decide)) (fun _ hk => hk.2) (.slice Aoz1 t102.length coz1)) (fun _ hk => hk.2) (.int .i64 t105)) (fun _ h_ => h_.1)))) (by decide)) hk (fun _ h => h.2)) (fun _ h => h.1)); replace BKz2 := Aside0.mk (KeepBut.blk hk (g' := gbz2) (o := .cells #[.slice Aoz1 t102.length coz1, .int .i64 t105] 24 (0, 0)) (bP BKz2.out) NBz6.out (by simp)); replace HK := Aside0.mk (KeepBut.trans (kX HK.out) hk (.inl rfl)); replace HB := Aside0.mk (hb); replace HI0 := Aside0.mk (hi); clear hb hk hi; obtain ⟨hczz3, hczz4, hfzz3, hfzz4⟩ := cZ2 BKz2.out; have pz1 : 0 ≤ (0 : Int) := (by omega); have qz1 : (0 : Int) < ((t102.length : Int) : Int) := of_decide_eq_true (by first | (with_reducible assumption) | assumption); have qiz1 : (0 < t102.length) = True := eq_true (by omega); obtain ⟨goz1, coz2, eoz2, gbz3, glz1, clz1, HGz1⟩ := Kd.R_form HOz1.out (by omega); (first | cases eoz2 | (injection eoz2 with ea_ en_ ec_; (first | subst ea_ | (injection ea_ with ea_; subst ea_)); subst ec_; clear en_)); have GBz1 := Aside0.mk gbz3; have GGz1 := Aside0.mk HGz1; clear gbz3 glz1 HGz1; obtain ⟨hxz1, hfz1⟩ := Kd.R_celln 0 HOz1.out (0 : Int) pz1 qz1; (try rw [show ((0 : Int)).toNat = 0 from rfl] at hxz1); (try simp only [Nat.reduceMul, Nat.zero_mul, Nat.zero_add, Nat.reduceAdd] at hxz1); (try rw [show ((0 : Int)).toNat = 0 from rfl] at hfz1); (try simp only [Nat.reduceMul, Nat.zero_mul, Nat.zero_add, Nat.reduceAdd] at hfz1); replace pz1 := eq_true pz1; replace qz1 := eq_true qz1; obtain ⟨hyz1, hzz1⟩ := Kd.R_celln 0 HOz1.out (0 : Int) (by omega) (of_decide_eq_true (by first | (with_reducible assumption) | assumption)); (try simp only [Int.reduceToNat, Int.toNat_zero, Int.toNat_ofNat, Nat.reduceMul, Nat.zero_mul, Nat.zero_add] at hyz1 hzz1); (try rw [show ((0 : Int)).toNat = 0 from rfl] at hyz1); (try rw [show ((0 : Int)).toNat = 0 from rfl] at hzz1); have HPz1 := Kd.R_putg HOz1.out (0 : Int) 3) | ((with_reducible refine gate_store (t := 3) (p := 20) rfl ?_); refine store_event (t := 3) (p := 20) (v := ?vo_wz5) (w1 := (wz4.setCell ⟨goz1, (0 : Int).toNat, none⟩ (.int .i64 3))) ?hg ?ho ?hn ?hr ?_; (case ho => rfl); (case hg => rfl); (case hn => rfl); (case hr => first | (go_simp; done) | (go_simp; rfl)); intro wz5 hw; have hg : wz4.grownBy wz5 (some goz1) := (by rw [hw]; exact HPz1.2); have hp_ : Kd.R (Kd.int .i64) 3 wz5 w.heap.size (fun _ => True) (.slice (some ⟨goz1, 0, none⟩) t102.length coz1) y119 := (by rw [hw, Ny119.out]; exact HPz1.1); clear HPz1; replace HI0 := Aside0.mk (IsS124.grown (i124 HI0.out) hg (IsS124.own_ne HI0.out HOz1.out (by decide))); replace BKz1 := Aside0.mk (blk_grown (g := gbz1) (o := .cells #[.slice none 0 0, .int .i64 0] 24 (0, 0)) (bX BKz1.out) hg (Kd.R_ne HOz1.out BKz1.out (by decide))); replace BKz2 := Aside0.mk (blk_grown (g := gbz2) (o := .cells #[.slice (some ⟨goz1, 0, none⟩) t102.length coz1, .int .i64 t105] 24 (0, 0)) (bX BKz2.out) hg (Kd.R_ne HOz1.out BKz2.out (by decide))); replace HB := Aside0.mk ((by rw [hw]; exact below_set (HB.out) (Nat.le_trans HL.out GBz1.out) : Below w0.heap.size w0 wz5)); replace HK := Aside0.mk (KeepBut.trans (kX HK.out) (KeepBut.of_grown hg g) (Kd.R_base2 HOz1.out)); replace HOz1 := Aside0.mk (hp_); clear hg hw hp_; obtain ⟨hczz5, hczz6, hfzz5, hfzz6⟩ := cZ2 BKz2.out; have pz2 : 0 ≤ (3 : Int) := (by omega); have qz2 : (3 : Int) < ((t102.length : Int) : Int) := of_decide_eq_true (by first | (with_reducible assumption) | assumption); have qiz2 : (3 < t102.length) = True := eq_true (by omega); obtain ⟨hxz2, hfz2⟩ := Kd.R_celln 0 HOz1.out (3 : Int) pz2 qz2; (try rw [show ((3 : Int)).toNat = 3 from rfl] at hxz2); (try simp only [Nat.reduceMul, Nat.zero_mul, Nat.zero_add, Nat.reduceAdd] at hxz2); (try rw [show ((3 : Int)).toNat = 3 from rfl] at hfz2); (try simp only [Nat.reduceMul, Nat.zero_mul, Nat.zero_add, Nat.reduceAdd] at hfz2); replace pz2 := eq_true pz2; replace qz2 := eq_true qz2; obtain ⟨hyz2, hzz2⟩ := Kd.R_celln 0 HOz1.out (3 : Int) (by omega) (of_decide_eq_true (by first | (with_reducible assumption) | assumption)); (try simp only [Int.reduceToNat, Int.toNat_zero, Int.toNat_ofNat, Nat.reduceMul, Nat.zero_mul, Nat.zero_add] at hyz2 hzz2); (try rw [show ((3 : Int)).toNat = 3 from rfl] at hyz2); (try rw [show ((3 : Int)).toNat = 3 from rfl] at hzz2); have HPz2 := Kd.R_putg HOz1.out (3 : Int) 3) | ((with_reducible refine gate_store (t := 3) (p := 23) rfl ?_); refine store_event (t := 3) (p := 23) (v := ?vo_wz6) (w1 := (wz5.setCell ⟨goz1, (3 : Int).toNat, none⟩ (.int .i64 3))) ?hg ?ho ?hn ?hr ?_; (case ho => rfl); (case hg => rfl); (case hn => rfl); (case hr => first | (go_simp; done) | (go_simp; rfl)); intro wz6 hw; have hg : wz5.grownBy wz6 (some goz1) := (by rw [hw]; exact HPz2.2); have hp_ : Kd.R (Kd.int .i64) 3 wz6 w.heap.size (fun _ => True) (.slice (some ⟨goz1, 0, none⟩) t102.length coz1) y120 := (by rw [hw, Ny120.out]; exact HPz2.1); clear HPz2; replace HI0 := Aside0.mk (IsS124.grown (i124 HI0.out) hg (IsS124.own_ne HI0.out HOz1.out (by decide))); replace BKz1 := Aside0.mk (blk_grown (g := gbz1) (o := .cells #[.slice none 0 0, .int .i64 0] 24 (0, 0)) (bX BKz1.out) hg (Kd.R_ne HOz1.out BKz1.out (by decide))); replace BKz2 := Aside0.mk (blk_grown (g := gbz2) (o := .cells #[.slice (some ⟨goz1, 0, none⟩) t102.length coz1, .int .i64 t105] 24 (0, 0)) (bX BKz2.out) hg (Kd.R_ne HOz1.out BKz2.out (by decide))); replace HB := Aside0.mk ((by rw [hw]; exact below_set (HB.out) (Nat.le_trans HL.out GBz1.out) : Below w0.heap.size w0 wz6)); replace HK := Aside0.mk (KeepBut.trans (kX HK.out) (KeepBut.of_grown hg g) (Kd.R_base2 HOz1.out)); replace HOz1 := Aside0.mk (hp_); clear hg hw hp_; obtain ⟨hczz7, hczz8, hfzz7, hfzz8⟩ := cZ2 BKz2.out; have hnbz3 := NBz2.out; have hncz3 := NBz1.out; obtain ⟨hczz9, hczz10, hfzz9, hfzz10⟩ := cZ2 BKz1.out))
      refine bodyPost_ret (results_cell_row rfl _ _ gbz1 24 #[.slice (some ⟨goz1, 0, none⟩) t102.length coz1, .int .i64 t105] (0, 0) _ rfl (bP BKz1.out) Try.underlying24 rfl (by kernel_rfl)) rfl ?_
      exact ⟨_, rE, (rT (h := by exact Kd.R_mono (Kd.R_far (p := ⟨gbz1, 1, none⟩) (Kd.R_far (p := ⟨gbz1, 0, none⟩) (Kd.R_types HOz1.out BKz1.out (by decide)) (fun _ hk => hk.2) (.slice (some ⟨goz1, 0, none⟩) t102.length coz1)) (fun _ hk => hk.2) (.int .i64 t105)) (fun _ hk => trivial))), (i124 HI0.out), (hY HB.out (IsS124.ge HI0.out)), (kX HK.out)⟩
    · rw [if_neg c26] at H
      obtain ⟨c26b0, c26b1⟩ := eqF c26
      by_cases c48 : t109 = 2
      · rw [if_pos c48] at H
        obtain ⟨c48b0, c48b1⟩ := eqT c48
        clear c48
        obtain ⟨y121, hy121⟩ : ∃ y_ : List Int, y_ = (([(-1), 5, 6] : List Int)) := ⟨_, rfl⟩
        replace H : ((spec_l1PickInt.f s0_0 t110 t111 y121).bind fun bt124 => (some (t102, bt124.1, bt124.2.1, bt124.2.2))) = some (r1, r2, r3, r4) := yH H hy121
        have Ny121 := Aside0.mk hy121
        clear hy121
        replace H := bE H; obtain ⟨⟨t124, t125, t126⟩, A49, H⟩ := H
        try dsimp only at H
        simp only [Option.some.injEq, Prod.mk.injEq] at H
        obtain ⟨rfl, rfl, rfl, rfl⟩ := H
        go_wp2_with (first | (refine goesM 88 7 Try.func88 #[.pointer (some ⟨g, 0, none⟩), .int .i64 8] ?_; refine (spec_l1Below.calls g s0_0 t106 t107 8 t109 t110 t111 w0 _ (by repeat (first | (with_reducible first | exact HI0.out | apply IsS124.alloc | apply IsS124.drewN | apply IsS124.drew | apply IsS124.set_1 | apply IsS124.set_2 | refine IsS124.far ?_ NBz1.out _ | refine IsS124.far ?_ NBz5.out _) | exact HI0.out)) (by repeat (first | (with_reducible first | exact HB.out | apply below_alloc | apply pw_below_drewN | apply below_drew1 | refine below_set ?_ (IsS124.ge HI0.out) | refine below_set ?_ GEz1.out | refine below_set ?_ GEz2.out) | exact HB.out)) A3.out).mono ?_; rintro e wz4 ⟨rfl, hi, hb, hk⟩; refine ⟨_, rfl, ?_⟩; replace BKz1 := Aside0.mk (KeepBut.blk hk (g' := gbz1) (o := .cells #[.slice none 0 0, .int .i64 0] 24 (0, 0)) (bF BKz1.out) NBz2.out (by simp)); replace HOz1 := Aside0.mk (Kd.R_mono (Kd.R_keep (IsS124.apart (show IsS124 w0 _ g s0_0 t106 t107 from (i124 HI0.out)) (rT (h := by exact (Kd.R_mono (Kd.R_far (p := ⟨gbz2, 1, none⟩) (Kd.R_far (p := ⟨gbz2, 0, none⟩) (Kd.R_types HOz1.out BKz2.out (by decide)) (fun _ hk => hk.2) (.slice Aoz1 t102.length coz1)) (fun _ hk => hk.2) (.int .i64 t105)) (fun _ h_ => h_.1)))) (by decide)) hk (fun _ h => h.2)) (fun _ h => h.1)); replace BKz2 := Aside0.mk (KeepBut.blk hk (g' := gbz2) (o := .cells #[.slice Aoz1 t102.length coz1, .int .i64 t105] 24 (0, 0)) (bP BKz2.out) NBz6.out (by simp)); replace HK := Aside0.mk (KeepBut.trans (kX HK.out) hk (.inl rfl)); replace HB := Aside0.mk (hb); replace HI0 := Aside0.mk (hi); clear hb hk hi) | ((with_reducible refine gate_dst (N := 27) rfl ?_); refine Kd.R_lit (Kd.int .i64) _ 3 ?hg (N := 27) ?hd (xs := ([(-1), 5, 6] : List Int)) (inner := [.int .i64 (-1), .int .i64 5, .int .i64 6]) (ok := fun _ => True) (okp := fun _ => True) ?hr ?hp (fun _ hk => hk) trivial (Below.refl _ _) (Nat.le_refl _) (by simp) ?_; (case hd => rfl); (case hg => rfl); (case hr => first | (go_simp; done) | (go_simp; rfl)); (case hp => exact (Reps.one (show Kd.M (Kd.int .i64) _ _ _ (-1) [.int .i64 (-1)] from rfl) (Reps.one (show Kd.M (Kd.int .i64) _ _ _ 5 [.int .i64 5] from rfl) (Reps.one (show Kd.M (Kd.int .i64) _ _ _ 6 [.int .i64 6] from rfl) (Reps.none _ _))))); intro vz2 wz5 hoz2 hb hg_ hnew_; clear hg_ hnew_; (first | rw [← Ny121.out] at hoz2 | (simp only [Int.reduceToNat] at hoz2; rw [← Ny121.out] at hoz2)); have HOz2 := Aside0.mk (Kd.R_lower (Kd.R_new' hoz2 (Kd.R_lt (rX HOz1.out))) (keep_size (w := w) (g := g) (row := none) (kX HK.out))); replace HOz1 := Aside0.mk (Kd.R_elder' (rX HOz1.out) (Kd.R_base hoz2) hb); replace BKz1 := Aside0.mk (blk_below (bX BKz1.out) hb); replace BKz2 := Aside0.mk (blk_below (bX BKz2.out) hb); replace HK := Aside0.mk (KeepBut.trans (kX HK.out) (KeepBut.of_below hb g none) (.inl rfl)); replace HB := Aside0.mk (below_step (hY HB.out (IsS124.ge HI0.out)) hb); replace HI0 := Aside0.mk (IsS124.below (i124 HI0.out) hb); clear hb hoz2; obtain ⟨Aoz2, coz2, eoz2⟩ := Kd.R_slice HOz2.out; subst eoz2) | (refine goesM 125 28 Try.func125 #[.pointer (some ⟨g, 0, none⟩), .slice Aoz2 y121.length coz2] ?_; refine (spec_l1PickInt.calls g s0_0 t110 t111 _ _ y121 t124 t125 t126 w0 _ (by repeat (first | (with_reducible first | exact HI0.out | apply IsS124.alloc | apply IsS124.drewN | apply IsS124.drew | apply IsS124.set_1 | apply IsS124.set_2 | refine IsS124.far ?_ NBz1.out _ | refine IsS124.far ?_ NBz5.out _) | exact HI0.out)) (by repeat (first | (with_reducible first | exact HB.out | apply below_alloc | apply pw_below_drewN | apply below_drew1 | refine below_set ?_ (IsS124.ge HI0.out) | refine below_set ?_ GEz1.out | refine below_set ?_ GEz2.out) | exact HB.out)) (cX (Kd.R_reads' HOz2.out).2.2) ((Kd.R_reads' HOz2.out).2.1) (by exact far_slice (IsS124.own_ne HI0.out HOz2.out (by decide))) A49.out).mono ?_; rintro e wz6 ⟨rfl, hi, hb, hk⟩; refine ⟨_, rfl, ?_⟩; replace BKz1 := Aside0.mk (KeepBut.blk hk (g' := gbz1) (o := .cells #[.slice none 0 0, .int .i64 0] 24 (0, 0)) (bX BKz1.out) NBz2.out (by simp)); replace HOz1 := Aside0.mk (Kd.R_mono (Kd.R_keep (IsS124.apart (show IsS124 w0 _ g s0_0 t110 t111 from (i124 HI0.out)) (rX HOz1.out) (by decide)) hk (fun _ h => h.2)) (fun _ h => h.1)); replace BKz2 := Aside0.mk (KeepBut.blk hk (g' := gbz2) (o := .cells #[.slice Aoz1 t102.length coz1, .int .i64 t105] 24 (0, 0)) (bX BKz2.out) NBz6.out (by simp)); replace HOz2 := Aside0.mk (Kd.R_mono (Kd.R_keep (IsS124.apart (show IsS124 w0 _ g s0_0 t110 t111 from (i124 HI0.out)) (rX HOz2.out) (by decide)) hk (fun _ h => h.2)) (fun _ h => h.1)); replace HK := Aside0.mk (KeepBut.trans (kX HK.out) hk (.inl rfl)); replace HB := Aside0.mk (hb); replace HI0 := Aside0.mk (hi); clear hb hk hi; obtain ⟨hczz3, hczz4, hfzz3, hfzz4⟩ := cZ2 BKz2.out; have hnbz3 := NBz2.out; have hncz3 := NBz1.out; obtain ⟨hczz5, hczz6, hfzz5, hfzz6⟩ := cZ2 BKz1.out))
        refine bodyPost_ret (results_cell_row rfl _ _ gbz1 24 #[.slice Aoz1 t102.length coz1, .int .i64 t124] (0, 0) _ rfl (bP BKz1.out) Try.underlying24 rfl (by kernel_rfl)) rfl ?_
        exact ⟨_, rE, (rT (h := by exact Kd.R_mono (Kd.R_far (p := ⟨gbz1, 1, none⟩) (Kd.R_far (p := ⟨gbz1, 0, none⟩) (Kd.R_far (p := ⟨gbz2, 1, none⟩) (Kd.R_types (Kd.R_types HOz1.out BKz2.out (by decide)) BKz1.out (by decide)) (fun _ hk => hk.1.2) (.int .i64 t124)) (fun _ hk => hk.2) (.slice Aoz1 t102.length coz1)) (fun _ hk => hk.2) (.int .i64 t124)) (fun _ hk => trivial))), (i124 HI0.out), (hY HB.out (IsS124.ge HI0.out)), (kX HK.out)⟩
      · rw [if_neg c48] at H
        obtain ⟨c48b0, c48b1⟩ := eqF c48
        by_cases c65 : t109 = 3
        · rw [if_pos c65] at H
          obtain ⟨c65b0, c65b1⟩ := eqT c65
          clear c65
          replace H := ifP H; obtain ⟨c66, H⟩ := H
          have c66b0 := eq_true c66
          have c66b1 := decide_eq_true c66
          clear c66
          obtain ⟨y127, hy127⟩ : ∃ y_ : List Int, y_ = (t102.take (2 : Int).toNat) := ⟨_, rfl⟩
          replace H : (some (y127, t105, t110, t111)) = some (r1, r2, r3, r4) := yH H hy127
          have Ny127 := Aside0.mk hy127
          clear hy127
          simp only [Option.some.injEq, Prod.mk.injEq] at H
          obtain ⟨rfl, rfl, rfl, rfl⟩ := H
          go_wp2_with (first | (refine goesM 88 7 Try.func88 #[.pointer (some ⟨g, 0, none⟩), .int .i64 8] ?_; refine (spec_l1Below.calls g s0_0 t106 t107 8 t109 t110 t111 w0 _ (by repeat (first | (with_reducible first | exact HI0.out | apply IsS124.alloc | apply IsS124.drewN | apply IsS124.drew | apply IsS124.set_1 | apply IsS124.set_2 | refine IsS124.far ?_ NBz1.out _ | refine IsS124.far ?_ NBz5.out _) | exact HI0.out)) (by repeat (first | (with_reducible first | exact HB.out | apply below_alloc | apply pw_below_drewN | apply below_drew1 | refine below_set ?_ (IsS124.ge HI0.out) | refine below_set ?_ GEz1.out | refine below_set ?_ GEz2.out) | exact HB.out)) A3.out).mono ?_; rintro e wz4 ⟨rfl, hi, hb, hk⟩; refine ⟨_, rfl, ?_⟩; replace BKz1 := Aside0.mk (KeepBut.blk hk (g' := gbz1) (o := .cells #[.slice none 0 0, .int .i64 0] 24 (0, 0)) (bF BKz1.out) NBz2.out (by simp)); replace HOz1 := Aside0.mk (Kd.R_mono (Kd.R_keep (IsS124.apart (show IsS124 w0 _ g s0_0 t106 t107 from (i124 HI0.out)) (rT (h := by exact (Kd.R_mono (Kd.R_far (p := ⟨gbz2, 1, none⟩) (Kd.R_far (p := ⟨gbz2, 0, none⟩) (Kd.R_types HOz1.out BKz2.out (by decide)) (fun _ hk => hk.2) (.slice Aoz1 t102.length coz1)) (fun _ hk => hk.2) (.int .i64 t105)) (fun _ h_ => h_.1)))) (by decide)) hk (fun _ h => h.2)) (fun _ h => h.1)); replace BKz2 := Aside0.mk (KeepBut.blk hk (g' := gbz2) (o := .cells #[.slice Aoz1 t102.length coz1, .int .i64 t105] 24 (0, 0)) (bP BKz2.out) NBz6.out (by simp)); replace HK := Aside0.mk (KeepBut.trans (kX HK.out) hk (.inl rfl)); replace HB := Aside0.mk (hb); replace HI0 := Aside0.mk (hi); clear hb hk hi; obtain ⟨hczz3, hczz4, hfzz3, hfzz4⟩ := cZ2 BKz2.out; have qz1 : (2 : Int) ≤ ((t102.length : Int) : Int) := of_decide_eq_true (by first | (with_reducible assumption) | assumption); obtain ⟨iz1, hiz1, _, hszz1, _⟩ := info_parts info3; have hcutz1 := cut_to (P := Try.prog) 22 3 .i64 Try.underlying22 hiz1 Aoz1 t102.length coz1 2 (by omega) qz1 (Kd.R_reads' HOz1.out).2.1; have hrz1 := Kd.R_take (m := (2 : Int).toNat) HOz1.out (by omega); have hyz1 : y127.length = (2 : Int).toNat := (by rw [Ny127.out, List.length_take]; omega); rw [← Ny127.out] at hrz1; rw [← hyz1] at hrz1 hcutz1; clear hyz1 hiz1 hszz1 HOz1; have HOz2 := Aside0.mk hrz1; clear hrz1; replace qz1 := eq_true qz1; have hnbz3 := NBz2.out; have hncz3 := NBz1.out; obtain ⟨hczz5, hczz6, hfzz5, hfzz6⟩ := cZ2 BKz1.out))
          refine bodyPost_ret (results_cell_row rfl _ _ gbz1 24 #[.slice Aoz1 y127.length coz1, .int .i64 t105] (0, 0) _ rfl (bP BKz1.out) Try.underlying24 rfl (by kernel_rfl)) rfl ?_
          exact ⟨_, rE, (rT (h := by exact Kd.R_mono (Kd.R_far (p := ⟨gbz1, 1, none⟩) (Kd.R_far (p := ⟨gbz1, 0, none⟩) (Kd.R_far (p := ⟨gbz2, 0, none⟩) (Kd.R_types (Kd.R_types HOz2.out BKz2.out (by decide)) BKz1.out (by decide)) (fun _ hk => hk.1.2) (.slice Aoz1 y127.length coz1)) (fun _ hk => hk.2) (.slice Aoz1 y127.length coz1)) (fun _ hk => hk.2) (.int .i64 t105)) (fun _ hk => trivial))), (i124 HI0.out), (hY HB.out (IsS124.ge HI0.out)), (kX HK.out)⟩
        · rw [if_neg c65] at H
          obtain ⟨c65b0, c65b1⟩ := eqF c65
          simp only [Option.some.injEq, Prod.mk.injEq] at H
          obtain ⟨rfl, rfl, rfl, rfl⟩ := H
          go_wp2_with (first | (refine goesM 88 7 Try.func88 #[.pointer (some ⟨g, 0, none⟩), .int .i64 8] ?_; refine (spec_l1Below.calls g s0_0 t106 t107 8 t109 t110 t111 w0 _ (by repeat (first | (with_reducible first | exact HI0.out | apply IsS124.alloc | apply IsS124.drewN | apply IsS124.drew | apply IsS124.set_1 | apply IsS124.set_2 | refine IsS124.far ?_ NBz1.out _ | refine IsS124.far ?_ NBz5.out _) | exact HI0.out)) (by repeat (first | (with_reducible first | exact HB.out | apply below_alloc | apply pw_below_drewN | apply below_drew1 | refine below_set ?_ (IsS124.ge HI0.out) | refine below_set ?_ GEz1.out | refine below_set ?_ GEz2.out) | exact HB.out)) A3.out).mono ?_; rintro e wz4 ⟨rfl, hi, hb, hk⟩; refine ⟨_, rfl, ?_⟩; replace BKz1 := Aside0.mk (KeepBut.blk hk (g' := gbz1) (o := .cells #[.slice none 0 0, .int .i64 0] 24 (0, 0)) (bF BKz1.out) NBz2.out (by simp)); replace HOz1 := Aside0.mk (Kd.R_mono (Kd.R_keep (IsS124.apart (show IsS124 w0 _ g s0_0 t106 t107 from (i124 HI0.out)) (rT (h := by exact (Kd.R_mono (Kd.R_far (p := ⟨gbz2, 1, none⟩) (Kd.R_far (p := ⟨gbz2, 0, none⟩) (Kd.R_types HOz1.out BKz2.out (by decide)) (fun _ hk => hk.2) (.slice Aoz1 t102.length coz1)) (fun _ hk => hk.2) (.int .i64 t105)) (fun _ h_ => h_.1)))) (by decide)) hk (fun _ h => h.2)) (fun _ h => h.1)); replace BKz2 := Aside0.mk (KeepBut.blk hk (g' := gbz2) (o := .cells #[.slice Aoz1 t102.length coz1, .int .i64 t105] 24 (0, 0)) (bP BKz2.out) NBz6.out (by simp)); replace HK := Aside0.mk (KeepBut.trans (kX HK.out) hk (.inl rfl)); replace HB := Aside0.mk (hb); replace HI0 := Aside0.mk (hi); clear hb hk hi; obtain ⟨hczz3, hczz4, hfzz3, hfzz4⟩ := cZ2 BKz2.out; have hnbz3 := NBz2.out; have hncz3 := NBz1.out; obtain ⟨hczz5, hczz6, hfzz5, hfzz6⟩ := cZ2 BKz1.out))
          refine bodyPost_ret (results_cell_row rfl _ _ gbz1 24 #[.slice Aoz1 t102.length coz1, .int .i64 t105] (0, 0) _ rfl (bP BKz1.out) Try.underlying24 rfl (by kernel_rfl)) rfl ?_
          exact ⟨_, rE, (rT (h := by exact Kd.R_mono (Kd.R_far (p := ⟨gbz1, 1, none⟩) (Kd.R_far (p := ⟨gbz1, 0, none⟩) (Kd.R_types HOz1.out BKz1.out (by decide)) (fun _ hk => hk.2) (.slice Aoz1 t102.length coz1)) (fun _ hk => hk.2) (.int .i64 t105)) (fun _ hk => trivial))), (i124 HI0.out), (hY HB.out (IsS124.ge HI0.out)), (kX HK.out)⟩
end Go.Proofs.Yteamagejhbkhnaa.P
namespace Go.Proofs.Yteamagejhbkhnaa.P
open Go.Proofs.YteamagejhbkhnaaZ Go.RowKit Go.Proofs.YteamagejhbkhnaaW.PrintWords Go.Proofs.YteamagejhbkhnaaW.PrintLast Go.Proofs.YteamagejhbkhnaaW.PrintMore
attribute [local go_sem] max2_int min2_int max_two min_two max_three min_three max_four min_four   -- for this text's walks alone
set_option linter.unusedVariables false
set_option linter.unusedSimpArgs false
def spec_l1New.l0 : Nat → List Int → Int → Int → Option (List Int × Int × Int)
  | 0, _, _, _ => none
  | k + 1, x0, x3, x4 => if x4 < (x0.length : Int) then (if x4 < 4000 then (if 0 ≤ x4 then (spec_l1New.l0 k x0 (Go.bits .and .i64 (wrap64 ((wrap64 ((wrap64 (x3 * 131)) + (wrap64 (rd x0 x4)))) + 7)) 1073741823) (wrap64 (x4 + 1))) else (none)) else (some (x0, 0, x3))) else (some (x0, 0, x3))
def spec_l1New.f (k : Nat) (l0 : List Int) : Option (List Int × Int × Int) := spec_l1New.l0 k l0 (wrap64 (27323 + (l0.length : Int))) 0
set_option maxHeartbeats 8000000 in
set_option maxRecDepth 100000 in
theorem spec_l1New.calls (k : Nat) (A0 : Option Addr) (c0 : Nat) (l0 : List Int) (r1 : List Int) (r2 : Int) (r3 : Int) (w0 w : World) (hB : Below w0.heap.size w0 w) (hr0 : Kd.C (Kd.int .u8) w0 A0 l0.length l0) (hc0 : l0.length ≤ c0) (h : spec_l1New.f k l0 = some (r1, r2, r3)) :
    Calls Try.prog 86 #[.slice A0 l0.length c0] w fun e w' => ∃ g_ : Nat, e = .returned (.pointer (some ⟨g_, 0, none⟩)) ∧ IsS124 w0 w' g_ r1 r2 r3 ∧ Below w0.heap.size w0 w' ∧ Below w.heap.size w w' := by
  have hu124 := Try.underlying124
  have HR0 := Aside0.mk hr0
  have HC0 := Aside0.mk hc0
  clear hr0 hc0
  have HBW := Aside0.mk (Below.refl w.heap.size w)
  have HW0 := Aside0.mk hB.size
  have HB := Aside0.mk hB
  clear hB
  have H := h
  unfold spec_l1New.f at H
  clear h
  have H' := Aside0.mk H
  clear H
  go_enter Try.func86, Try.ntmps86
  go_wp2
  go_loopg [3, 4] k (fun kq v3 v4 w' => ∃ (x3_1 : Int) (x4_1 : Int), v3 = .int .i64 x3_1 ∧ v4 = .int .i64 x4_1 ∧ Aside0 (spec_l1New.l0 kq l0 x3_1 x4_1 = some (r1, r2, r3)) ∧ Aside0 (kq ≤ k) ∧ Aside0 (Below w0.heap.size w0 w') ∧ Aside0 (Below w.heap.size w w'))
  case atStart => exact ⟨(wrap64 (27323 + (l0.length : Int))), (0), rS, rS, H', ⟨Nat.le_refl _⟩, ⟨(hX HB.out)⟩, ⟨(hX HBW.out)⟩⟩
  case round =>
    clear H'
    obtain ⟨x3_1, x4_1, rfl, rfl, HA, HKy1, HB, HBW⟩ := hrel
    cases gk with
    | zero => exact absurd HA.out (by simp [spec_l1New.l0])
    | succ k1 =>
      have H := HA.out
      clear HA
      simp only [spec_l1New.l0] at H
      by_cases c2 : x4_1 < (l0.length : Int)
      · rw [if_pos c2] at H
        have c2b0 := decide_eq_true c2
        clear c2
        by_cases c3 : x4_1 < 4000
        · rw [if_pos c3] at H
          have c3b0 := decide_eq_true c3
          clear c3
          replace H := ifP H; obtain ⟨c4, H⟩ := H
          have c4b0 := decide_eq_true c4
          clear c4
          have H' := Aside0.mk H
          clear H
          have px1 : 0 ≤ (x4_1 : Int) := of_decide_eq_true (by first | (with_reducible assumption) | assumption)
          have qx1 : x4_1 < (l0.length : Int) := of_decide_eq_true (by first | (with_reducible assumption) | assumption)
          obtain ⟨adx1, ex1, hxx1⟩ := Kd.at_int HR0.out x4_1 px1 qx1
          cases ex1
          replace hxx1 := pw_cell_below HB.out hxx1
          replace px1 := eq_true px1
          replace qx1 := eq_true qx1
          go_wp2
          go_roundg k1
          case measure => have := HKy1.out; omega
          case rel => exact ⟨(Go.bits .and .i64 (wrap64 ((wrap64 ((wrap64 (x3_1 * 131)) + (wrap64 (rd l0 x4_1)))) + 7)) 1073741823), (wrap64 (x4_1 + 1)), rS, rS, H', ⟨by have := HKy1.out; omega⟩, ⟨(hX HB.out)⟩, ⟨(hX HBW.out)⟩⟩
        · rw [if_neg c3] at H
          have c3b0 := decide_eq_false c3
          clear c3
          simp only [Option.some.injEq, Prod.mk.injEq] at H
          obtain ⟨rfl, rfl, rfl⟩ := H
          go_wp2_with (first | (refine boxE 31 #[.slice A0 l0.length c0, .int .i64 0, .int .i64 x3_1] 124 ?_; intro gbx1 hg wx1 hbox hb; have BKx1 := Aside0.mk (hbox); have GWx1 := Aside0.mk (gX' hg (hX HBW.out)); have GEx1 := Aside0.mk ((Nat.le_trans HW0.out (by rw [hg]; exact (below_size (hX HBW.out)) : w.heap.size ≤ gbx1) : w0.heap.size ≤ gbx1)); replace HBW := Aside0.mk (below_step HBW.out hb); replace HB := Aside0.mk (below_step (hX HB.out) hb); clear hb hbox hg))
          go_ret
          exact ⟨_, rfl, (show IsS124 w0 _ gbx1 l0 0 x3_1 from ⟨_, _, (bX BKx1.out), GEx1.out, HR0.out⟩), (hX HB.out), (hX HBW.out)⟩
      · rw [if_neg c2] at H
        have c2b0 := decide_eq_false c2
        clear c2
        simp only [Option.some.injEq, Prod.mk.injEq] at H
        obtain ⟨rfl, rfl, rfl⟩ := H
        go_wp2_with (first | (refine boxE 31 #[.slice A0 l0.length c0, .int .i64 0, .int .i64 x3_1] 124 ?_; intro gbx1 hg wx1 hbox hb; have BKx1 := Aside0.mk (hbox); have GWx1 := Aside0.mk (gX' hg (hX HBW.out)); have GEx1 := Aside0.mk ((Nat.le_trans HW0.out (by rw [hg]; exact (below_size (hX HBW.out)) : w.heap.size ≤ gbx1) : w0.heap.size ≤ gbx1)); replace HBW := Aside0.mk (below_step HBW.out hb); replace HB := Aside0.mk (below_step (hX HB.out) hb); clear hb hbox hg))
        go_ret
        exact ⟨_, rfl, (show IsS124 w0 _ gbx1 l0 0 x3_1 from ⟨_, _, (bX BKx1.out), GEx1.out, HR0.out⟩), (hX HB.out), (hX HBW.out)⟩
end Go.Proofs.Yteamagejhbkhnaa.P
namespace Go.Proofs.Yteamagejhbkhnaa.P
open Go.Proofs.YteamagejhbkhnaaZ Go.RowKit Go.Proofs.YteamagejhbkhnaaW.PrintWords Go.Proofs.YteamagejhbkhnaaW.PrintLast Go.Proofs.YteamagejhbkhnaaW.PrintMore
attribute [local go_sem] max2_int min2_int max_two min_two max_three min_three max_four min_four   -- for this text's walks alone
set_option linter.unusedVariables false
set_option linter.unusedSimpArgs false
def spec_DrawWordsOf.f (k : Nat) (l0 : List Int) : Option (List Int × Int) := (spec_l1New.f k l0).bind fun bt102 => ((spec_l3Draw.f k bt102.1 bt102.2.1 bt102.2.2).bind fun bt106 => (some (bt106.1, bt106.2.1)))
set_option maxHeartbeats 8000000 in
set_option maxRecDepth 100000 in
theorem spec_DrawWordsOf.calls (k : Nat) (A0 : Option Addr) (c0 : Nat) (l0 : List Int) (r1 : List Int) (r2 : Int) (w : World) (hr0 : Kd.C (Kd.int .u8) w A0 l0.length l0) (hc0 : l0.length ≤ c0) (h : spec_DrawWordsOf.f k l0 = some (r1, r2)) :
    Calls Try.prog 31 #[.slice A0 l0.length c0] w fun e w' => ∃ v0_ : Value, e = .returned (.agg #[v0_, .int .i64 r2]) ∧ Kd.R (Kd.int .i64) 3 w' w.heap.size (fun _ => True) v0_ r1 ∧ Below w.heap.size w w' := by
  have hu24 := Try.underlying24
  have HR0 := Aside0.mk hr0
  have HC0 := Aside0.mk hc0
  clear hr0 hc0
  have HB := Aside0.mk (Below.refl w.heap.size w)
  have H := h
  unfold spec_DrawWordsOf.f at H
  clear h
  replace H := bE H; obtain ⟨⟨t102, t103, t104⟩, A2, H⟩ := H
  try dsimp only at H
  replace H := bE H; obtain ⟨⟨t106, t109, t110, t111⟩, A3, H⟩ := H
  try dsimp only at H
  simp only [Option.some.injEq, Prod.mk.injEq] at H
  obtain ⟨rfl, rfl⟩ := H
  go_enter Try.func31, Try.ntmps31
  go_wp2_with (first | (refine boxE 2 #[.slice none 0 0, .int .i64 0] 24 ?_; intro gbz1 hg wz1 hbox hb; have BKz1 := Aside0.mk (hbox); have GWz1 := Aside0.mk (gX' hg (hX HB.out)); have GEz1 := Aside0.mk (gX' hg (hX HB.out)); replace HB := Aside0.mk (below_step (hX HB.out) hb); clear hb hbox hg) | (refine goesM 86 4 Try.func86 #[.slice A0 l0.length c0] ?_; refine (spec_l1New.calls k _ _ l0 t102 t103 t104 w _ (by repeat (first | (with_reducible first | exact HB.out | apply below_alloc | apply pw_below_drewN | apply below_drew1 | refine below_set ?_ GEz1.out) | exact HB.out)) HR0.out HC0.out A2.out).mono ?_; rintro e wz2 ⟨gz1, rfl, hi, hb, hbz1⟩; refine ⟨_, rfl, ?_⟩; have HIz1 := Aside0.mk (hi); have NBz1 := Aside0.mk (IsS124.ne_blk hi (blk_below (g := gbz1) (o := .cells #[.slice none 0 0, .int .i64 0] 24 (0, 0)) (bX BKz1.out) hbz1) (by decide)); have NBz2 := Aside0.mk (Ne.symm (IsS124.ne_blk hi (blk_below (g := gbz1) (o := .cells #[.slice none 0 0, .int .i64 0] 24 (0, 0)) (bX BKz1.out) hbz1) (by decide))); replace BKz1 := Aside0.mk (blk_below (g := gbz1) (o := .cells #[.slice none 0 0, .int .i64 0] 24 (0, 0)) (bX BKz1.out) hbz1); replace HB := Aside0.mk (hb); clear hb hbz1 hi) | (refine goesM 85 5 Try.func85 #[.pointer (some ⟨gz1, 0, none⟩)] ?_; refine (spec_l3Draw.calls k gz1 t102 t103 t104 t106 t109 t110 t111 w _ (by repeat (first | (with_reducible first | exact HIz1.out | apply IsS124.alloc | apply IsS124.drewN | apply IsS124.drew | apply IsS124.set_1 | apply IsS124.set_2 | refine IsS124.far ?_ NBz1.out _) | exact HIz1.out)) (by repeat (first | (with_reducible first | exact HB.out | apply below_alloc | apply pw_below_drewN | apply below_drew1 | refine below_set ?_ (IsS124.ge HIz1.out) | refine below_set ?_ GEz1.out) | exact HB.out)) A3.out).mono ?_; rintro e wz3 ⟨vz1, rfl, hoz1, hi, hb, hk⟩; refine ⟨_, rfl, ?_⟩; have HOz1 := Aside0.mk (Kd.R_lower hoz1 (below_size (hY HB.out (IsS124.ge HIz1.out)))); replace BKz1 := Aside0.mk (KeepBut.blk hk (g' := gbz1) (o := .cells #[.slice none 0 0, .int .i64 0] 24 (0, 0)) (bX BKz1.out) NBz2.out (by simp)); replace HB := Aside0.mk (hb); replace HIz1 := Aside0.mk (hi); clear hb hk hi hoz1; obtain ⟨Aoz1, coz1, eoz1⟩ := Kd.R_slice HOz1.out; subst eoz1; have hnbz1 := NBz2.out; have hncz1 := NBz1.out; obtain ⟨hczz1, hczz2, hfzz1, hfzz2⟩ := cZ2 BKz1.out))
  refine bodyPost_ret (results_cell_row rfl _ _ gbz1 24 #[.slice Aoz1 t106.length coz1, .int .i64 t109] (0, 0) _ rfl (bP BKz1.out) Try.underlying24 rfl (by kernel_rfl)) rfl ?_
  exact ⟨_, rE, (rT (h := by exact Kd.R_mono (Kd.R_far (p := ⟨gbz1, 1, none⟩) (Kd.R_far (p := ⟨gbz1, 0, none⟩) (Kd.R_types HOz1.out BKz1.out (by decide)) (fun _ hk => hk.2) (.slice Aoz1 t106.length coz1)) (fun _ hk => hk.2) (.int .i64 t109)) (fun _ hk => trivial))), (hY HB.out (IsS124.ge HIz1.out))⟩
end Go.Proofs.Yteamagejhbkhnaa.P
namespace Go.Proofs.Yteamagejhbkhnaa.P
open Go.Proofs.YteamagejhbkhnaaZ Go.RowKit Go.Proofs.YteamagejhbkhnaaW.PrintWords Go.Proofs.YteamagejhbkhnaaW.PrintLast Go.Proofs.YteamagejhbkhnaaW.PrintMore
attribute [local go_sem] max2_int min2_int max_two min_two max_three min_three max_four min_four   -- for this text's walks alone
set_option linter.unusedVariables false
set_option linter.unusedSimpArgs false
def spec_DrawRowsOk.f (k : Nat) (l0 : List Int) : Option (List Int × Int) := (spec_l1New.f k l0).bind fun bt102 => ((spec_l3Draw.f k bt102.1 bt102.2.1 bt102.2.2).bind fun bt106 => (some (bt106.1, bt106.2.1)))
set_option maxHeartbeats 8000000 in
set_option maxRecDepth 100000 in
theorem spec_DrawRowsOk.calls (k : Nat) (A0 : Option Addr) (c0 : Nat) (l0 : List Int) (r1 : List Int) (r2 : Int) (w : World) (hr0 : Kd.C (Kd.int .u8) w A0 l0.length l0) (hc0 : l0.length ≤ c0) (h : spec_DrawRowsOk.f k l0 = some (r1, r2)) :
    Calls Try.prog 33 #[.slice A0 l0.length c0] w fun e w' => ∃ v0_ : Value, e = .returned (.agg #[v0_, .int .i64 r2]) ∧ Kd.R (Kd.int .i64) 3 w' w.heap.size (fun _ => True) v0_ r1 ∧ Below w.heap.size w w' := by
  have hu24 := Try.underlying24
  have HR0 := Aside0.mk hr0
  have HC0 := Aside0.mk hc0
  clear hr0 hc0
  have HB := Aside0.mk (Below.refl w.heap.size w)
  have H := h
  unfold spec_DrawRowsOk.f at H
  clear h
  replace H := bE H; obtain ⟨⟨t102, t103, t104⟩, A2, H⟩ := H
  try dsimp only at H
  replace H := bE H; obtain ⟨⟨t106, t109, t110, t111⟩, A3, H⟩ := H
  try dsimp only at H
  simp only [Option.some.injEq, Prod.mk.injEq] at H
  obtain ⟨rfl, rfl⟩ := H
  go_enter Try.func33, Try.ntmps33
  go_wp2_with (first | (refine boxE 2 #[.slice none 0 0, .int .i64 0] 24 ?_; intro gbz1 hg wz1 hbox hb; have BKz1 := Aside0.mk (hbox); have GWz1 := Aside0.mk (gX' hg (hX HB.out)); have GEz1 := Aside0.mk (gX' hg (hX HB.out)); replace HB := Aside0.mk (below_step (hX HB.out) hb); clear hb hbox hg) | (refine goesM 86 4 Try.func86 #[.slice A0 l0.length c0] ?_; refine (spec_l1New.calls k _ _ l0 t102 t103 t104 w _ (by repeat (first | (with_reducible first | exact HB.out | apply below_alloc | apply pw_below_drewN | apply below_drew1 | refine below_set ?_ GEz1.out) | exact HB.out)) HR0.out HC0.out A2.out).mono ?_; rintro e wz2 ⟨gz1, rfl, hi, hb, hbz1⟩; refine ⟨_, rfl, ?_⟩; have HIz1 := Aside0.mk (hi); have NBz1 := Aside0.mk (IsS124.ne_blk hi (blk_below (g := gbz1) (o := .cells #[.slice none 0 0, .int .i64 0] 24 (0, 0)) (bX BKz1.out) hbz1) (by decide)); have NBz2 := Aside0.mk (Ne.symm (IsS124.ne_blk hi (blk_below (g := gbz1) (o := .cells #[.slice none 0 0, .int .i64 0] 24 (0, 0)) (bX BKz1.out) hbz1) (by decide))); replace BKz1 := Aside0.mk (blk_below (g := gbz1) (o := .cells #[.slice none 0 0, .int .i64 0] 24 (0, 0)) (bX BKz1.out) hbz1); replace HB := Aside0.mk (hb); clear hb hbz1 hi) | (refine goesM 85 5 Try.func85 #[.pointer (some ⟨gz1, 0, none⟩)] ?_; refine (spec_l3Draw.calls k gz1 t102 t103 t104 t106 t109 t110 t111 w _ (by repeat (first | (with_reducible first | exact HIz1.out | apply IsS124.alloc | apply IsS124.drewN | apply IsS124.drew | apply IsS124.set_1 | apply IsS124.set_2 | refine IsS124.far ?_ NBz1.out _) | exact HIz1.out)) (by repeat (first | (with_reducible first | exact HB.out | apply below_alloc | apply pw_below_drewN | apply below_drew1 | refine below_set ?_ (IsS124.ge HIz1.out) | refine below_set ?_ GEz1.out) | exact HB.out)) A3.out).mono ?_; rintro e wz3 ⟨vz1, rfl, hoz1, hi, hb, hk⟩; refine ⟨_, rfl, ?_⟩; have HOz1 := Aside0.mk (Kd.R_lower hoz1 (below_size (hY HB.out (IsS124.ge HIz1.out)))); replace BKz1 := Aside0.mk (KeepBut.blk hk (g' := gbz1) (o := .cells #[.slice none 0 0, .int .i64 0] 24 (0, 0)) (bX BKz1.out) NBz2.out (by simp)); replace HB := Aside0.mk (hb); replace HIz1 := Aside0.mk (hi); clear hb hk hi hoz1; obtain ⟨Aoz1, coz1, eoz1⟩ := Kd.R_slice HOz1.out; subst eoz1; have hnbz1 := NBz2.out; have hncz1 := NBz1.out; obtain ⟨hczz1, hczz2, hfzz1, hfzz2⟩ := cZ2 BKz1.out))
  refine bodyPost_ret (results_cell_row rfl _ _ gbz1 24 #[.slice Aoz1 t106.length coz1, .int .i64 t109] (0, 0) _ rfl (bP BKz1.out) Try.underlying24 rfl (by kernel_rfl)) rfl ?_
  exact ⟨_, rE, (rT (h := by exact Kd.R_mono (Kd.R_far (p := ⟨gbz1, 1, none⟩) (Kd.R_far (p := ⟨gbz1, 0, none⟩) (Kd.R_types HOz1.out BKz1.out (by decide)) (fun _ hk => hk.2) (.slice Aoz1 t106.length coz1)) (fun _ hk => hk.2) (.int .i64 t109)) (fun _ hk => trivial))), (hY HB.out (IsS124.ge HIz1.out))⟩
end Go.Proofs.Yteamagejhbkhnaa.P
namespace Go.Proofs.Yteamagejhbkhnaa.P
open Go.Proofs.YteamagejhbkhnaaZ Go.RowKit Go.Proofs.YteamagejhbkhnaaW.PrintWords Go.Proofs.YteamagejhbkhnaaW.PrintLast Go.Proofs.YteamagejhbkhnaaW.PrintMore
attribute [local go_sem] max2_int min2_int max_two min_two max_three min_three max_four min_four   -- for this text's walks alone
set_option linter.unusedVariables false
set_option linter.unusedSimpArgs false
def spec_DrawKeyOf.f (k : Nat) (l0 : List Int) : Option (List Int × Int × Int) := (spec_l1New.f k l0).bind fun bt102 => ((spec_l3Draw.f k bt102.1 bt102.2.1 bt102.2.2).bind fun bt106 => ((spec_l1Below.f bt102.1 bt106.2.2.1 bt106.2.2.2 9).bind fun bt113 => (some (bt106.1, bt106.2.1, wrap64 (bt113.1 - 1)))))
set_option maxHeartbeats 8000000 in
set_option maxRecDepth 100000 in
theorem spec_DrawKeyOf.calls (k : Nat) (A0 : Option Addr) (c0 : Nat) (l0 : List Int) (r1 : List Int) (r2 : Int) (r3 : Int) (w : World) (hr0 : Kd.C (Kd.int .u8) w A0 l0.length l0) (hc0 : l0.length ≤ c0) (h : spec_DrawKeyOf.f k l0 = some (r1, r2, r3)) :
    Calls Try.prog 34 #[.slice A0 l0.length c0] w fun e w' => ∃ v0_ : Value, e = .returned (.tuple #[.agg #[v0_, .int .i64 r2], .int .i64 r3]) ∧ Kd.R (Kd.int .i64) 3 w' w.heap.size (fun _ => True) v0_ r1 ∧ Below w.heap.size w w' := by
  have hu24 := Try.underlying24
  have HR0 := Aside0.mk hr0
  have HC0 := Aside0.mk hc0
  clear hr0 hc0
  have HB := Aside0.mk (Below.refl w.heap.size w)
  have H := h
  unfold spec_DrawKeyOf.f at H
  clear h
  replace H := bE H; obtain ⟨⟨t102, t103, t104⟩, A2, H⟩ := H
  try dsimp only at H
  replace H := bE H; obtain ⟨⟨t106, t109, t110, t111⟩, A3, H⟩ := H
  try dsimp only at H
  replace H := bE H; obtain ⟨⟨t113, t114, t115⟩, A4, H⟩ := H
  try dsimp only at H
  simp only [Option.some.injEq, Prod.mk.injEq] at H
  obtain ⟨rfl, rfl, rfl⟩ := H
  go_enter Try.func34, Try.ntmps34
  try go_wp2_with (first | (refine boxE 2 #[.slice none 0 0, .int .i64 0] 24 ?_; intro gbz1 hg wz1 hbox hb; have BKz1 := Aside0.mk (hbox); have GWz1 := Aside0.mk (gX' hg (hX HB.out)); have GEz1 := Aside0.mk (gX' hg (hX HB.out)); replace HB := Aside0.mk (below_step (hX HB.out) hb); clear hb hbox hg) | (refine goesM 86 7 Try.func86 #[.slice A0 l0.length c0] ?_; refine (spec_l1New.calls k _ _ l0 t102 t103 t104 w _ (by repeat (first | (with_reducible first | exact HB.out | apply below_alloc | apply pw_below_drewN | apply below_drew1 | refine below_set ?_ GEz1.out) | exact HB.out)) HR0.out HC0.out A2.out).mono ?_; rintro e wz2 ⟨gz1, rfl, hi, hb, hbz1⟩; refine ⟨_, rfl, ?_⟩; have HIz1 := Aside0.mk (hi); have NBz1 := Aside0.mk (IsS124.ne_blk hi (blk_below (g := gbz1) (o := .cells #[.slice none 0 0, .int .i64 0] 24 (0, 0)) (bX BKz1.out) hbz1) (by decide)); have NBz2 := Aside0.mk (Ne.symm (IsS124.ne_blk hi (blk_below (g := gbz1) (o := .cells #[.slice none 0 0, .int .i64 0] 24 (0, 0)) (bX BKz1.out) hbz1) (by decide))); replace BKz1 := Aside0.mk (blk_below (g := gbz1) (o := .cells #[.slice none 0 0, .int .i64 0] 24 (0, 0)) (bX BKz1.out) hbz1); replace HB := Aside0.mk (hb); clear hb hbz1 hi) | (refine goesM 85 9 Try.func85 #[.pointer (some ⟨gz1, 0, none⟩)] ?_; refine (spec_l3Draw.calls k gz1 t102 t103 t104 t106 t109 t110 t111 w _ (by repeat (first | (with_reducible first | exact HIz1.out | apply IsS124.alloc | apply IsS124.drewN | apply IsS124.drew | apply IsS124.set_1 | apply IsS124.set_2 | refine IsS124.far ?_ NBz1.out _) | exact HIz1.out)) (by repeat (first | (with_reducible first | exact HB.out | apply below_alloc | apply pw_below_drewN | apply below_drew1 | refine below_set ?_ (IsS124.ge HIz1.out) | refine below_set ?_ GEz1.out) | exact HB.out)) A3.out).mono ?_; rintro e wz3 ⟨vz1, rfl, hoz1, hi, hb, hk⟩; refine ⟨_, rfl, ?_⟩; have HOz1 := Aside0.mk (Kd.R_lower hoz1 (below_size (hY HB.out (IsS124.ge HIz1.out)))); replace BKz1 := Aside0.mk (KeepBut.blk hk (g' := gbz1) (o := .cells #[.slice none 0 0, .int .i64 0] 24 (0, 0)) (bX BKz1.out) NBz2.out (by simp)); replace HB := Aside0.mk (hb); replace HIz1 := Aside0.mk (hi); clear hb hk hi hoz1) | (refine boxE 5 #[.slice none 0 0, .int .i64 0] 24 ?_; intro gbz2 hg wz4 hbox hb; have BKz2 := Aside0.mk (hbox); have GWz2 := Aside0.mk (gX' hg (hY HB.out (IsS124.ge HIz1.out))); have GEz2 := Aside0.mk (gX' hg (hY HB.out (IsS124.ge HIz1.out))); have NBz3 := Aside0.mk (gL hg (bX BKz1.out)); have NBz4 := Aside0.mk (gG hg (bX BKz1.out)); have NBz5 := Aside0.mk ((by rw [hg]; exact Nat.ne_of_lt (IsS124.lt (show IsS124 w _ gz1 t102 t110 t111 from (i124 HIz1.out))) : gz1 ≠ gbz2)); have NBz6 := Aside0.mk ((by rw [hg]; exact Nat.ne_of_gt (IsS124.lt (show IsS124 w _ gz1 t102 t110 t111 from (i124 HIz1.out))) : gbz2 ≠ gz1)); replace HOz1 := Aside0.mk (Kd.R_below (rX HOz1.out) hb); replace BKz1 := Aside0.mk (blk_below (bX BKz1.out) hb); replace HB := Aside0.mk (below_step (hY HB.out (IsS124.ge HIz1.out)) hb); replace HIz1 := Aside0.mk (IsS124.below (i124 HIz1.out) hb); clear hb hbox hg; obtain ⟨Aoz1, coz1, eoz1⟩ := Kd.R_slice HOz1.out; subst eoz1; have hnbz1 := NBz4.out; have hncz1 := NBz3.out; have hnbz2 := NBz6.out; have hncz2 := NBz5.out; obtain ⟨hczz1, hczz2, hfzz1, hfzz2⟩ := cZ2 BKz2.out))
  have nz1 : Aside0 (Kd.R (Kd.int .i64) 3 ((wz4.setCell ⟨gbz2, 0, none⟩ (.slice Aoz1 t106.length coz1)).setCell ⟨gbz2, 1, none⟩ (.int .i64 t109)) w.heap.size (fun _ => True) (.slice Aoz1 t106.length coz1) t106) := ⟨(rT (h := by exact Kd.R_mono (Kd.R_far (p := ⟨gbz2, 1, none⟩) (Kd.R_far (p := ⟨gbz2, 0, none⟩) (Kd.R_types HOz1.out BKz2.out (by decide)) (fun _ hk => hk.2) (.slice Aoz1 t106.length coz1)) (fun _ hk => hk.2) (.int .i64 t109)) (fun _ hk => trivial)))⟩
  have nz2 : Aside0 (((wz4.setCell ⟨gbz2, 0, none⟩ (.slice Aoz1 t106.length coz1)).setCell ⟨gbz2, 1, none⟩ (.int .i64 t109)).heap[gbz1]? = some (.cells #[.slice none 0 0, .int .i64 0] 24 (0, 0))) := ⟨(bF BKz1.out)⟩
  have nz3 : Aside0 (((wz4.setCell ⟨gbz2, 0, none⟩ (.slice Aoz1 t106.length coz1)).setCell ⟨gbz2, 1, none⟩ (.int .i64 t109)).heap[gbz2]? = some (.cells #[.slice Aoz1 t106.length coz1, .int .i64 t109] 24 (0, 0))) := ⟨(bP BKz2.out)⟩
  have nz4 : Aside0 (IsS124 w ((wz4.setCell ⟨gbz2, 0, none⟩ (.slice Aoz1 t106.length coz1)).setCell ⟨gbz2, 1, none⟩ (.int .i64 t109)) gz1 t102 t110 t111) := ⟨(i124 HIz1.out)⟩
  have nz5 : Aside0 (Below w.heap.size w ((wz4.setCell ⟨gbz2, 0, none⟩ (.slice Aoz1 t106.length coz1)).setCell ⟨gbz2, 1, none⟩ (.int .i64 t109))) := ⟨(hY HB.out (IsS124.ge HIz1.out))⟩
  (try clear HOz1)
  (try clear BKz1)
  (try clear BKz2)
  (try clear HIz1)
  (try clear HB)
  generalize ((wz4.setCell ⟨gbz2, 0, none⟩ (.slice Aoz1 t106.length coz1)).setCell ⟨gbz2, 1, none⟩ (.int .i64 t109)) = wz5 at nz1 nz2 nz3 nz4 nz5 ⊢
  have HOz1 := nz1
  have BKz1 := nz2
  have BKz2 := nz3
  have HIz1 := nz4
  have HB := nz5
  clear nz1 nz2 nz3 nz4 nz5
  replace HOz1 := Aside0.mk (Kd.R_drew HOz1.out)
  replace BKz1 := Aside0.mk (blk_drew BKz1.out)
  replace BKz2 := Aside0.mk (blk_drew BKz2.out)
  replace HIz1 := Aside0.mk (IsS124.drew HIz1.out)
  replace HB := Aside0.mk (below_drew1 HB.out)
  refine start_ (n := 6) (S := fun w' => w'.cell? ⟨gbz2, 0, none⟩ = some (.slice Aoz1 t106.length coz1) ∧ w'.cell? ⟨gbz2, 1, none⟩ = some (.int .i64 t109)) (ds := []) (bm 6 0) (by kernel_rfl) rfl (by kernel_rfl) ⟨cK BKz2.out 0, cK BKz2.out 1⟩ (fun hHeld => ?_)
  generalize wz5.drew = wz6 at HOz1 BKz1 BKz2 HIz1 HB hHeld ⊢
  refine pK 1 11 (bm 6 2) ?_
  refine tK 0 10 (bm 6 3) hHeld ?_
  refine oK 2 (some 12) (bm 6 7) (fun K hK => ?_)
  refine goesN Try.func88 #[.pointer (some ⟨gz1, 0, none⟩), .int .i64 9] ?_
  with_reducible refine (spec_l1Below.calls gz1 t102 t110 t111 9 t113 t114 t115 w _ ?side1 ?side2 A4.out).mono ?_
  (case side1 => repeat (first | (with_reducible first | exact HIz1.out | apply IsS124.alloc | apply IsS124.drewN | apply IsS124.drew | apply IsS124.set_1 | apply IsS124.set_2 | refine IsS124.far ?_ NBz1.out _ | refine IsS124.far ?_ NBz5.out _) | exact HIz1.out))
  (case side2 => repeat (first | (with_reducible first | exact HB.out | apply below_alloc | apply pw_below_drewN | apply below_drew1 | refine below_set ?_ (IsS124.ge HIz1.out) | refine below_set ?_ GEz1.out | refine below_set ?_ GEz2.out) | exact HB.out))
  rintro e wz7 ⟨rfl, hi, hb, hk⟩
  refine ⟨_, rfl, ?_⟩
  replace BKz1 := Aside0.mk (KeepBut.blk hk (g' := gbz1) (o := .cells #[.slice none 0 0, .int .i64 0] 24 (0, 0)) (bX BKz1.out) NBz2.out (by simp))
  replace HOz1 := Aside0.mk (Kd.R_mono (Kd.R_keep (IsS124.apart (show IsS124 w _ gz1 t102 t110 t111 from (i124 HIz1.out)) (rX HOz1.out) (by decide)) hk (fun _ h => h.2)) (fun _ h => h.1))
  replace BKz2 := Aside0.mk (KeepBut.blk hk (g' := gbz2) (o := .cells #[.slice Aoz1 t106.length coz1, .int .i64 t109] 24 (0, 0)) (bX BKz2.out) NBz6.out (by simp))
  replace HB := Aside0.mk (hb)
  replace HIz1 := Aside0.mk (hi)
  (try clear hb)
  (try clear hbz1)
  (try clear hk)
  (try clear hi)
  refine hK.out _ _ ⟨cK BKz2.out 0, cK BKz2.out 1⟩ (fun hHeld => ?_)
  clear hK K
  refine nZ 12 ?_
  refine pK 3 13 (bm 6 15) ?_
  refine oK 4 none (bm 6 31) (fun K hK => ?_)
  have hsz1 : wz7.cell? ⟨gbz1, 0, none⟩ = some (.slice none 0 0) := (blk_cell BKz1.out 0).trans rfl
  have hfsz1 := blk_frozen BKz1.out 0
  have hnsz1 := NBz4.out
  have hmsz1 := NBz3.out
  have hsz2 : wz7.cell? ⟨gbz1, 1, none⟩ = some (.int .i64 0) := (blk_cell BKz1.out 1).trans rfl
  have hfsz2 := blk_frozen BKz1.out 1
  have hnsz2 := NBz4.out
  have hmsz2 := NBz3.out
  refine skip_ (w1 := ?_) (by rfl) rfl ?_ ?_
  rotate_left
  · go_simp
    rfl
  refine hK.out _ _ ⟨((cell_far (p := ⟨gbz1, _, none⟩) NBz4.out _).trans (((cell_far (p := ⟨gbz1, _, none⟩) NBz4.out _).trans (hHeld.1)))), ((cell_far (p := ⟨gbz1, _, none⟩) NBz4.out _).trans (((cell_far (p := ⟨gbz1, _, none⟩) NBz4.out _).trans (hHeld.2))))⟩ (fun hHeld => ?_)
  clear hK K
  refine pK 5 3 (bm 6 63) ?_
  refine done_ (by kernel_rfl) ?_
  try go_wp2
  refine bodyPost_ret (results_ct rfl _ _ gbz1 24 #[.slice Aoz1 t106.length coz1, .int .i64 t109] (0, 0) _ rfl (bP BKz1.out) Try.underlying24 rfl (by kernel_rfl)) rfl ?_
  exact ⟨_, rE, (rT (h := by exact Kd.R_mono (Kd.R_far (p := ⟨gbz1, 1, none⟩) (Kd.R_far (p := ⟨gbz1, 0, none⟩) (Kd.R_types HOz1.out BKz1.out (by decide)) (fun _ hk => hk.2) (.slice Aoz1 t106.length coz1)) (fun _ hk => hk.2) (.int .i64 t109)) (fun _ hk => trivial))), (hY HB.out (IsS124.ge HIz1.out))⟩
end Go.Proofs.Yteamagejhbkhnaa.P
namespace Go.Proofs.Yteamagejhbkhnaa.P
open Go.Proofs.YteamagejhbkhnaaZ Go.RowKit Go.Proofs.YteamagejhbkhnaaW.PrintWords Go.Proofs.YteamagejhbkhnaaW.PrintLast Go.Proofs.YteamagejhbkhnaaW.PrintMore
attribute [local go_sem] max2_int min2_int max_two min_two max_three min_three max_four min_four   -- for this text's walks alone
set_option linter.unusedVariables false
set_option linter.unusedSimpArgs false
def spec_DrawHowMany.f (k : Nat) (l0 : List Int) : Option (List Int × Int × Int) := (spec_l1New.f k l0).bind fun bt102 => ((spec_l3Draw.f k bt102.1 bt102.2.1 bt102.2.2).bind fun bt106 => ((spec_l1Below.f bt102.1 bt106.2.2.1 bt106.2.2.2 5).bind fun bt113 => (some (bt106.1, bt106.2.1, wrap64 (bt113.1 - 1)))))
set_option maxHeartbeats 8000000 in
set_option maxRecDepth 100000 in
theorem spec_DrawHowMany.calls (k : Nat) (A0 : Option Addr) (c0 : Nat) (l0 : List Int) (r1 : List Int) (r2 : Int) (r3 : Int) (w : World) (hr0 : Kd.C (Kd.int .u8) w A0 l0.length l0) (hc0 : l0.length ≤ c0) (h : spec_DrawHowMany.f k l0 = some (r1, r2, r3)) :
    Calls Try.prog 35 #[.slice A0 l0.length c0] w fun e w' => ∃ v0_ : Value, e = .returned (.tuple #[.agg #[v0_, .int .i64 r2], .int .i64 r3]) ∧ Kd.R (Kd.int .i64) 3 w' w.heap.size (fun _ => True) v0_ r1 ∧ Below w.heap.size w w' := by
  have hu24 := Try.underlying24
  have HR0 := Aside0.mk hr0
  have HC0 := Aside0.mk hc0
  clear hr0 hc0
  have HB := Aside0.mk (Below.refl w.heap.size w)
  have H := h
  unfold spec_DrawHowMany.f at H
  clear h
  replace H := bE H; obtain ⟨⟨t102, t103, t104⟩, A2, H⟩ := H
  try dsimp only at H
  replace H := bE H; obtain ⟨⟨t106, t109, t110, t111⟩, A3, H⟩ := H
  try dsimp only at H
  replace H := bE H; obtain ⟨⟨t113, t114, t115⟩, A4, H⟩ := H
  try dsimp only at H
  simp only [Option.some.injEq, Prod.mk.injEq] at H
  obtain ⟨rfl, rfl, rfl⟩ := H
  go_enter Try.func35, Try.ntmps35
  try go_wp2_with (first | (refine boxE 2 #[.slice none 0 0, .int .i64 0] 24 ?_; intro gbz1 hg wz1 hbox hb; have BKz1 := Aside0.mk (hbox); have GWz1 := Aside0.mk (gX' hg (hX HB.out)); have GEz1 := Aside0.mk (gX' hg (hX HB.out)); replace HB := Aside0.mk (below_step (hX HB.out) hb); clear hb hbox hg) | (refine goesM 86 7 Try.func86 #[.slice A0 l0.length c0] ?_; refine (spec_l1New.calls k _ _ l0 t102 t103 t104 w _ (by repeat (first | (with_reducible first | exact HB.out | apply below_alloc | apply pw_below_drewN | apply below_drew1 | refine below_set ?_ GEz1.out) | exact HB.out)) HR0.out HC0.out A2.out).mono ?_; rintro e wz2 ⟨gz1, rfl, hi, hb, hbz1⟩; refine ⟨_, rfl, ?_⟩; have HIz1 := Aside0.mk (hi); have NBz1 := Aside0.mk (IsS124.ne_blk hi (blk_below (g := gbz1) (o := .cells #[.slice none 0 0, .int .i64 0] 24 (0, 0)) (bX BKz1.out) hbz1) (by decide)); have NBz2 := Aside0.mk (Ne.symm (IsS124.ne_blk hi (blk_below (g := gbz1) (o := .cells #[.slice none 0 0, .int .i64 0] 24 (0, 0)) (bX BKz1.out) hbz1) (by decide))); replace BKz1 := Aside0.mk (blk_below (g := gbz1) (o := .cells #[.slice none 0 0, .int .i64 0] 24 (0, 0)) (bX BKz1.out) hbz1); replace HB := Aside0.mk (hb); clear hb hbz1 hi) | (refine goesM 85 9 Try.func85 #[.pointer (some ⟨gz1, 0, none⟩)] ?_; refine (spec_l3Draw.calls k gz1 t102 t103 t104 t106 t109 t110 t111 w _ (by repeat (first | (with_reducible first | exact HIz1.out | apply IsS124.alloc | apply IsS124.drewN | apply IsS124.drew | apply IsS124.set_1 | apply IsS124.set_2 | refine IsS124.far ?_ NBz1.out _) | exact HIz1.out)) (by repeat (first | (with_reducible first | exact HB.out | apply below_alloc | apply pw_below_drewN | apply below_drew1 | refine below_set ?_ (IsS124.ge HIz1.out) | refine below_set ?_ GEz1.out) | exact HB.out)) A3.out).mono ?_; rintro e wz3 ⟨vz1, rfl, hoz1, hi, hb, hk⟩; refine ⟨_, rfl, ?_⟩; have HOz1 := Aside0.mk (Kd.R_lower hoz1 (below_size (hY HB.out (IsS124.ge HIz1.out)))); replace BKz1 := Aside0.mk (KeepBut.blk hk (g' := gbz1) (o := .cells #[.slice none 0 0, .int .i64 0] 24 (0, 0)) (bX BKz1.out) NBz2.out (by simp)); replace HB := Aside0.mk (hb); replace HIz1 := Aside0.mk (hi); clear hb hk hi hoz1) | (refine boxE 5 #[.slice none 0 0, .int .i64 0] 24 ?_; intro gbz2 hg wz4 hbox hb; have BKz2 := Aside0.mk (hbox); have GWz2 := Aside0.mk (gX' hg (hY HB.out (IsS124.ge HIz1.out))); have GEz2 := Aside0.mk (gX' hg (hY HB.out (IsS124.ge HIz1.out))); have NBz3 := Aside0.mk (gL hg (bX BKz1.out)); have NBz4 := Aside0.mk (gG hg (bX BKz1.out)); have NBz5 := Aside0.mk ((by rw [hg]; exact Nat.ne_of_lt (IsS124.lt (show IsS124 w _ gz1 t102 t110 t111 from (i124 HIz1.out))) : gz1 ≠ gbz2)); have NBz6 := Aside0.mk ((by rw [hg]; exact Nat.ne_of_gt (IsS124.lt (show IsS124 w _ gz1 t102 t110 t111 from (i124 HIz1.out))) : gbz2 ≠ gz1)); replace HOz1 := Aside0.mk (Kd.R_below (rX HOz1.out) hb); replace BKz1 := Aside0.mk (blk_below (bX BKz1.out) hb); replace HB := Aside0.mk (below_step (hY HB.out (IsS124.ge HIz1.out)) hb); replace HIz1 := Aside0.mk (IsS124.below (i124 HIz1.out) hb); clear hb hbox hg; obtain ⟨Aoz1, coz1, eoz1⟩ := Kd.R_slice HOz1.out; subst eoz1; have hnbz1 := NBz4.out; have hncz1 := NBz3.out; have hnbz2 := NBz6.out; have hncz2 := NBz5.out; obtain ⟨hczz1, hczz2, hfzz1, hfzz2⟩ := cZ2 BKz2.out))
  have nz1 : Aside0 (Kd.R (Kd.int .i64) 3 ((wz4.setCell ⟨gbz2, 0, none⟩ (.slice Aoz1 t106.length coz1)).setCell ⟨gbz2, 1, none⟩ (.int .i64 t109)) w.heap.size (fun _ => True) (.slice Aoz1 t106.length coz1) t106) := ⟨(rT (h := by exact Kd.R_mono (Kd.R_far (p := ⟨gbz2, 1, none⟩) (Kd.R_far (p := ⟨gbz2, 0, none⟩) (Kd.R_types HOz1.out BKz2.out (by decide)) (fun _ hk => hk.2) (.slice Aoz1 t106.length coz1)) (fun _ hk => hk.2) (.int .i64 t109)) (fun _ hk => trivial)))⟩
  have nz2 : Aside0 (((wz4.setCell ⟨gbz2, 0, none⟩ (.slice Aoz1 t106.length coz1)).setCell ⟨gbz2, 1, none⟩ (.int .i64 t109)).heap[gbz1]? = some (.cells #[.slice none 0 0, .int .i64 0] 24 (0, 0))) := ⟨(bF BKz1.out)⟩
  have nz3 : Aside0 (((wz4.setCell ⟨gbz2, 0, none⟩ (.slice Aoz1 t106.length coz1)).setCell ⟨gbz2, 1, none⟩ (.int .i64 t109)).heap[gbz2]? = some (.cells #[.slice Aoz1 t106.length coz1, .int .i64 t109] 24 (0, 0))) := ⟨(bP BKz2.out)⟩
  have nz4 : Aside0 (IsS124 w ((wz4.setCell ⟨gbz2, 0, none⟩ (.slice Aoz1 t106.length coz1)).setCell ⟨gbz2, 1, none⟩ (.int .i64 t109)) gz1 t102 t110 t111) := ⟨(i124 HIz1.out)⟩
  have nz5 : Aside0 (Below w.heap.size w ((wz4.setCell ⟨gbz2, 0, none⟩ (.slice Aoz1 t106.length coz1)).setCell ⟨gbz2, 1, none⟩ (.int .i64 t109))) := ⟨(hY HB.out (IsS124.ge HIz1.out))⟩
  (try clear HOz1)
  (try clear BKz1)
  (try clear BKz2)
  (try clear HIz1)
  (try clear HB)
  generalize ((wz4.setCell ⟨gbz2, 0, none⟩ (.slice Aoz1 t106.length coz1)).setCell ⟨gbz2, 1, none⟩ (.int .i64 t109)) = wz5 at nz1 nz2 nz3 nz4 nz5 ⊢
  have HOz1 := nz1
  have BKz1 := nz2
  have BKz2 := nz3
  have HIz1 := nz4
  have HB := nz5
  clear nz1 nz2 nz3 nz4 nz5
  replace HOz1 := Aside0.mk (Kd.R_drew HOz1.out)
  replace BKz1 := Aside0.mk (blk_drew BKz1.out)
  replace BKz2 := Aside0.mk (blk_drew BKz2.out)
  replace HIz1 := Aside0.mk (IsS124.drew HIz1.out)
  replace HB := Aside0.mk (below_drew1 HB.out)
  refine start_ (n := 6) (S := fun w' => w'.cell? ⟨gbz2, 0, none⟩ = some (.slice Aoz1 t106.length coz1) ∧ w'.cell? ⟨gbz2, 1, none⟩ = some (.int .i64 t109)) (ds := []) (bm 6 0) (by kernel_rfl) rfl (by kernel_rfl) ⟨cK BKz2.out 0, cK BKz2.out 1⟩ (fun hHeld => ?_)
  generalize wz5.drew = wz6 at HOz1 BKz1 BKz2 HIz1 HB hHeld ⊢
  refine pK 1 11 (bm 6 2) ?_
  refine tK 0 10 (bm 6 3) hHeld ?_
  refine oK 2 (some 12) (bm 6 7) (fun K hK => ?_)
  refine goesN Try.func88 #[.pointer (some ⟨gz1, 0, none⟩), .int .i64 5] ?_
  with_reducible refine (spec_l1Below.calls gz1 t102 t110 t111 5 t113 t114 t115 w _ ?side1 ?side2 A4.out).mono ?_
  (case side1 => repeat (first | (with_reducible first | exact HIz1.out | apply IsS124.alloc | apply IsS124.drewN | apply IsS124.drew | apply IsS124.set_1 | apply IsS124.set_2 | refine IsS124.far ?_ NBz1.out _ | refine IsS124.far ?_ NBz5.out _) | exact HIz1.out))
  (case side2 => repeat (first | (with_reducible first | exact HB.out | apply below_alloc | apply pw_below_drewN | apply below_drew1 | refine below_set ?_ (IsS124.ge HIz1.out) | refine below_set ?_ GEz1.out | refine below_set ?_ GEz2.out) | exact HB.out))
  rintro e wz7 ⟨rfl, hi, hb, hk⟩
  refine ⟨_, rfl, ?_⟩
  replace BKz1 := Aside0.mk (KeepBut.blk hk (g' := gbz1) (o := .cells #[.slice none 0 0, .int .i64 0] 24 (0, 0)) (bX BKz1.out) NBz2.out (by simp))
  replace HOz1 := Aside0.mk (Kd.R_mono (Kd.R_keep (IsS124.apart (show IsS124 w _ gz1 t102 t110 t111 from (i124 HIz1.out)) (rX HOz1.out) (by decide)) hk (fun _ h => h.2)) (fun _ h => h.1))
  replace BKz2 := Aside0.mk (KeepBut.blk hk (g' := gbz2) (o := .cells #[.slice Aoz1 t106.length coz1, .int .i64 t109] 24 (0, 0)) (bX BKz2.out) NBz6.out (by simp))
  replace HB := Aside0.mk (hb)
  replace HIz1 := Aside0.mk (hi)
  (try clear hb)
  (try clear hbz1)
  (try clear hk)
  (try clear hi)
  refine hK.out _ _ ⟨cK BKz2.out 0, cK BKz2.out 1⟩ (fun hHeld => ?_)
  clear hK K
  refine nZ 12 ?_
  refine pK 3 13 (bm 6 15) ?_
  refine oK 4 none (bm 6 31) (fun K hK => ?_)
  have hsz1 : wz7.cell? ⟨gbz1, 0, none⟩ = some (.slice none 0 0) := (blk_cell BKz1.out 0).trans rfl
  have hfsz1 := blk_frozen BKz1.out 0
  have hnsz1 := NBz4.out
  have hmsz1 := NBz3.out
  have hsz2 : wz7.cell? ⟨gbz1, 1, none⟩ = some (.int .i64 0) := (blk_cell BKz1.out 1).trans rfl
  have hfsz2 := blk_frozen BKz1.out 1
  have hnsz2 := NBz4.out
  have hmsz2 := NBz3.out
  refine skip_ (w1 := ?_) (by rfl) rfl ?_ ?_
  rotate_left
  · go_simp
    rfl
  refine hK.out _ _ ⟨((cell_far (p := ⟨gbz1, _, none⟩) NBz4.out _).trans (((cell_far (p := ⟨gbz1, _, none⟩) NBz4.out _).trans (hHeld.1)))), ((cell_far (p := ⟨gbz1, _, none⟩) NBz4.out _).trans (((cell_far (p := ⟨gbz1, _, none⟩) NBz4.out _).trans (hHeld.2))))⟩ (fun hHeld => ?_)
  clear hK K
  refine pK 5 3 (bm 6 63) ?_
  refine done_ (by kernel_rfl) ?_
  try go_wp2
  refine bodyPost_ret (results_ct rfl _ _ gbz1 24 #[.slice Aoz1 t106.length coz1, .int .i64 t109] (0, 0) _ rfl (bP BKz1.out) Try.underlying24 rfl (by kernel_rfl)) rfl ?_
  exact ⟨_, rE, (rT (h := by exact Kd.R_mono (Kd.R_far (p := ⟨gbz1, 1, none⟩) (Kd.R_far (p := ⟨gbz1, 0, none⟩) (Kd.R_types HOz1.out BKz1.out (by decide)) (fun _ hk => hk.2) (.slice Aoz1 t106.length coz1)) (fun _ hk => hk.2) (.int .i64 t109)) (fun _ hk => trivial))), (hY HB.out (IsS124.ge HIz1.out))⟩
end Go.Proofs.Yteamagejhbkhnaa.P
namespace Go.Proofs.Yteamagejhbkhnaa.P
open Go.Proofs.YteamagejhbkhnaaZ Go.RowKit Go.Proofs.YteamagejhbkhnaaW.PrintWords Go.Proofs.YteamagejhbkhnaaW.PrintLast Go.Proofs.YteamagejhbkhnaaW.PrintMore
attribute [local go_sem] max2_int min2_int max_two min_two max_three min_three max_four min_four   -- for this text's walks alone
set_option linter.unusedVariables false
set_option linter.unusedSimpArgs false
def laws_sameInts.l0 : Nat → List Int → List Int → Int → Option (Bool)
  | 0, _, _, _ => none
  | k + 1, x0, x1, x5 => if x5 < (x0.length : Int) then (if 0 ≤ x5 then (if x5 < (x1.length : Int) then (if (rd x0 x5) = (rd x1 x5) then (laws_sameInts.l0 k x0 x1 (wrap64 (x5 + 1))) else (some false)) else (none)) else (none)) else (some true)
def laws_sameInts.f (k : Nat) (l0 : List Int) (l1 : List Int) : Option (Bool) := if (l0.length : Int) = (l1.length : Int) then (laws_sameInts.l0 k l0 l1 0) else (some false)
set_option maxHeartbeats 8000000 in
set_option maxRecDepth 100000 in
theorem laws_sameInts.calls (k : Nat) (A0 : Option Addr) (c0 : Nat) (l0 : List Int) (A1 : Option Addr) (c1 : Nat) (l1 : List Int) (r : Bool) (w : World) (hr0 : Kd.C (Kd.int .i64) w A0 l0.length l0) (hc0 : l0.length ≤ c0) (hr1 : Kd.C (Kd.int .i64) w A1 l1.length l1) (hc1 : l1.length ≤ c1) (h : laws_sameInts.f k l0 l1 = some r) :
    Calls Try.prog 36 #[.slice A0 l0.length c0, .slice A1 l1.length c1] w fun e w' => e = .returned (.bool r) ∧ Drawn0 w w' := by
  have HR0 := Aside0.mk hr0
  have HC0 := Aside0.mk hc0
  clear hr0 hc0
  have HR1 := Aside0.mk hr1
  have HC1 := Aside0.mk hc1
  clear hr1 hc1
  have H := h
  unfold laws_sameInts.f at H
  clear h
  go_enter Try.func36, Try.ntmps36
  by_cases c3 : (l0.length : Int) = (l1.length : Int)
  · rw [if_pos c3] at H
    obtain ⟨c3b0, c3b1⟩ := eqT c3
    have c3b2 : (l0.length == l1.length) = true := by first | simpa using c3 | (simp at c3 ⊢; omega)
    clear c3
    have H' := Aside0.mk H
    clear H
    go_wp2
    repeat (go_quiet (fail); try go_wp2)
    go_loopg [5] k (fun kq v5 w' => ∃ (x5_1 : Int), v5 = .int .i64 x5_1 ∧ Aside0 (laws_sameInts.l0 kq l0 l1 x5_1 = some r) ∧ Aside0 (kq ≤ k) ∧ Drawn0 w w')
    case atStart => exact ⟨(0), rS, H', ⟨Nat.le_refl _⟩, dX⟩
    case round =>
      clear H'
      try clear c1
      try clear p2
      try clear c3
      try clear c3b0
      try clear c3b1
      try clear c3b2
      obtain ⟨x5_1, rfl, HA, HKy1, ⟨my1, rfl⟩⟩ := hrel
      cases gk with
      | zero => exact absurd HA.out (by simp [laws_sameInts.l0])
      | succ k1 =>
        have H := HA.out
        clear HA
        simp only [laws_sameInts.l0] at H
        by_cases c4 : x5_1 < (l0.length : Int)
        · rw [if_pos c4] at H
          have c4b0 := decide_eq_true c4
          clear c4
          replace H := ifP H; obtain ⟨c5, H⟩ := H
          have c5b0 := decide_eq_true c5
          clear c5
          replace H := ifP H; obtain ⟨c6, H⟩ := H
          have c6b0 := decide_eq_true c6
          clear c6
          by_cases c7 : (rd l0 x5_1) = (rd l1 x5_1)
          · rw [if_pos c7] at H
            obtain ⟨c7b0, c7b1⟩ := eqT c7
            clear c7
            have H' := Aside0.mk H
            clear H
            have px1 : 0 ≤ (x5_1 : Int) := of_decide_eq_true (by first | (with_reducible assumption) | assumption)
            have qx1 : x5_1 < (l0.length : Int) := of_decide_eq_true (by first | (with_reducible assumption) | assumption)
            obtain ⟨adx1, ex1, hxx1⟩ := Kd.at_int HR0.out x5_1 px1 qx1
            cases ex1
            replace px1 := eq_true px1
            replace qx1 := eq_true qx1
            have px2 : 0 ≤ (x5_1 : Int) := of_decide_eq_true (by first | (with_reducible assumption) | assumption)
            have qx2 : x5_1 < (l1.length : Int) := of_decide_eq_true (by first | (with_reducible assumption) | assumption)
            obtain ⟨adx2, ex2, hxx2⟩ := Kd.at_int HR1.out x5_1 px2 qx2
            cases ex2
            replace px2 := eq_true px2
            replace qx2 := eq_true qx2
            go_wp2
            repeat (go_quiet (fail); try go_wp2)
            go_roundg k1
            case measure => have := HKy1.out; omega
            case rel => exact ⟨(wrap64 (x5_1 + 1)), rS, H', ⟨by have := HKy1.out; omega⟩, dX⟩
          · rw [if_neg c7] at H
            obtain ⟨c7b0, c7b1⟩ := eqF c7
            obtain rfl := Option.some.inj H
            have px1 : 0 ≤ (x5_1 : Int) := of_decide_eq_true (by first | (with_reducible assumption) | assumption)
            have qx1 : x5_1 < (l0.length : Int) := of_decide_eq_true (by first | (with_reducible assumption) | assumption)
            obtain ⟨adx1, ex1, hxx1⟩ := Kd.at_int HR0.out x5_1 px1 qx1
            cases ex1
            replace px1 := eq_true px1
            replace qx1 := eq_true qx1
            have px2 : 0 ≤ (x5_1 : Int) := of_decide_eq_true (by first | (with_reducible assumption) | assumption)
            have qx2 : x5_1 < (l1.length : Int) := of_decide_eq_true (by first | (with_reducible assumption) | assumption)
            obtain ⟨adx2, ex2, hxx2⟩ := Kd.at_int HR1.out x5_1 px2 qx2
            cases ex2
            replace px2 := eq_true px2
            replace qx2 := eq_true qx2
            go_wp2
            repeat (go_quiet (fail); try go_wp2)
            go_ret
            exact ⟨by first | rfl | (simp; done) | (simp [*]; done), dX⟩
        · rw [if_neg c4] at H
          have c4b0 := decide_eq_false c4
          clear c4
          obtain rfl := Option.some.inj H
          go_wp2
          repeat (go_quiet (fail); try go_wp2)
          go_ret
          exact ⟨by first | rfl | (simp; done) | (simp [*]; done), dX⟩
  · rw [if_neg c3] at H
    obtain ⟨c3b0, c3b1⟩ := eqF c3
    have c3b2 : (l0.length == l1.length) = false := by first | simpa using c3 | (simp at c3 ⊢; omega)
    obtain rfl := Option.some.inj H
    go_wp2
    repeat (go_quiet (fail); try go_wp2)
    go_ret
    exact ⟨by first | rfl | (simp; done) | (simp [*]; done), dX⟩
end Go.Proofs.Yteamagejhbkhnaa.P
namespace Go.Proofs.Yteamagejhbkhnaa.P
open Go.Proofs.YteamagejhbkhnaaZ Go.RowKit Go.Proofs.YteamagejhbkhnaaW.PrintWords Go.Proofs.YteamagejhbkhnaaW.PrintLast Go.Proofs.YteamagejhbkhnaaW.PrintMore
attribute [local go_sem] max2_int min2_int max_two min_two max_three min_three max_four min_four   -- for this text's walks alone
set_option linter.unusedVariables false
set_option linter.unusedSimpArgs false
def spec_l1In.f (a0 : Int) (a1 : Int) (a2 : Int) : Option (Bool) := if a0 ≥ a1 then (some (decide (a0 ≤ a2))) else (some false)
set_option maxHeartbeats 8000000 in
set_option maxRecDepth 100000 in
theorem spec_l1In.calls (a0 : Int) (a1 : Int) (a2 : Int) (r : Bool) (w : World) (h : spec_l1In.f a0 a1 a2 = some r) :
    Calls Try.prog 95 #[.int .i64 a0, .int .i64 a1, .int .i64 a2] w fun e w' => e = .returned (.bool r) ∧ Drawn0 w w' := by
  have H := h
  unfold spec_l1In.f at H
  clear h
  go_enter Try.func95, Try.ntmps95
  by_cases c4 : a0 ≥ a1
  · rw [if_pos c4] at H
    have c4b0 := decide_eq_true c4
    clear c4
    obtain rfl := Option.some.inj H
    go_wp2
    go_ret
    exact ⟨by first | rfl | (simp; done) | (simp [*]; done), dX⟩
  · rw [if_neg c4] at H
    have c4b0 := decide_eq_false c4
    clear c4
    obtain rfl := Option.some.inj H
    go_wp2
    go_ret
    exact ⟨by first | rfl | (simp; done) | (simp [*]; done), dX⟩
end Go.Proofs.Yteamagejhbkhnaa.P
namespace Go.Proofs.Yteamagejhbkhnaa.P
open Go.Proofs.YteamagejhbkhnaaZ Go.RowKit Go.Proofs.YteamagejhbkhnaaW.PrintWords Go.Proofs.YteamagejhbkhnaaW.PrintLast Go.Proofs.YteamagejhbkhnaaW.PrintMore
attribute [local go_sem] max2_int min2_int max_two min_two max_three min_three max_four min_four   -- for this text's walks alone
set_option linter.unusedVariables false
set_option linter.unusedSimpArgs false
def spec_ValOk.f (a0 : Int) : Option (Bool) := (spec_l1In.f a0 1 6).bind fun t101 => (some t101)
set_option maxHeartbeats 8000000 in
set_option maxRecDepth 100000 in
theorem spec_ValOk.calls (a0 : Int) (r : Bool) (w : World) (h : spec_ValOk.f a0 = some r) :
    Calls Try.prog 94 #[.int .i64 a0] w fun e w' => e = .returned (.bool r) ∧ Drawn0 w w' := by
  have H := h
  unfold spec_ValOk.f at H
  clear h
  replace H := bE H; obtain ⟨t101, A2, H⟩ := H
  obtain rfl := Option.some.inj H
  go_enter Try.func94, Try.ntmps94
  go_wp2_with (first | (refine goesM 95 4 Try.func95 #[.int .i64 a0, .int .i64 1, .int .i64 6] ?_; refine (spec_l1In.calls a0 1 6 t101 _ A2.out).mono ?_; rintro e w' ⟨rfl, ⟨nd, rfl⟩⟩; refine ⟨_, rfl, ?_⟩))
  go_ret
  exact ⟨by first | rfl | (simp; done) | (simp [*]; done), dX⟩
end Go.Proofs.Yteamagejhbkhnaa.P
namespace Go.Proofs.Yteamagejhbkhnaa.P
open Go.Proofs.YteamagejhbkhnaaZ Go.RowKit Go.Proofs.YteamagejhbkhnaaW.PrintWords Go.Proofs.YteamagejhbkhnaaW.PrintLast Go.Proofs.YteamagejhbkhnaaW.PrintMore
attribute [local go_sem] max2_int min2_int max_two min_two max_three min_three max_four min_four   -- for this text's walks alone
set_option linter.unusedVariables false
set_option linter.unusedSimpArgs false
def spec_RowsOk.l0 : Nat → Int → List Int → Int → Option (Bool)
  | 0, _, _, _ => none
  | k + 1, x3, x102000, x102001 => if x3 < (x102000.length : Int) then (if 0 ≤ x3 then (if (rd x102000 x3) = 0 then (spec_RowsOk.l0 k (wrap64 (x3 + 1)) x102000 x102001) else ((spec_ValOk.f (rd x102000 x3)).bind fun t105 => (if t105 = true then ((spec_KeyOf.f k x102000 x102001 (rd x102000 x3)).bind fun t107 => (if t107 = x3 then (spec_RowsOk.l0 k (wrap64 (x3 + 1)) x102000 x102001) else (some false))) else (some false)))) else (none)) else (if (x102000.length : Int) = 4 then ((spec_l1In.f x102001 0 5).bind fun t102 => (some t102)) else (some false))
def spec_RowsOk.f (k : Nat) (l0_0 : List Int) (a0_1 : Int) : Option (Bool) := spec_RowsOk.l0 k 0 l0_0 a0_1
def spec_RowsOk.T4 : Bool × List (List Nat × List Nat) := (true, [([], []), ([0], [0]), ([], []), ([1, 2], [1, 2]), ([3], [3]), ([4], [4]), ([5], [5]), ([6], [6]), ([7, 6], [6, 7]), ([6], [6]), ([8, 9, 6], [6, 8, 9]), ([10, 6], [6, 10]), ([11, 6, 6], [6, 11]), ([12, 6], [6, 12]), ([13, 12, 6], [6, 13]), ([14], [14]), ([14], [14]), ([16, 14], [14, 16]), ([14], [14]), ([17, 18, 14], [14, 17, 18]), ([19, 14], [14, 19]), ([15, 20, 14, 14], [14, 15, 20]), ([14], [14]), ([21, 22, 14], [14, 21, 22]), ([14, 23, 6], [6, 14, 23]), ([6, 24], [6, 24])])
def spec_RowsOk.B4 : List Nat := [0, 1, 0, 7, 15, 31, 63, 127, 255, 127, 1023, 2047, 4095, 8191, 16383, 32767, 32767, 98303, 32767, 491519, 1015807, 2097151, 32767, 8388607, 16777215, 33554431]
theorem spec_RowsOk.tab4 : rtab .any (opsOf Try.f39 4) = spec_RowsOk.T4 := by kernel_rfl
theorem spec_RowsOk.bits4 : waitsOk spec_RowsOk.T4.2 spec_RowsOk.B4 = true := by kernel_rfl
set_option maxHeartbeats 8000000 in
set_option maxRecDepth 100000 in
theorem spec_RowsOk.calls (k : Nat) (A0_0 : Option Addr) (c0_0 : Nat) (l0_0 : List Int) (a0_1 : Int) (r : Bool) (w : World) (hr0_0 : Kd.C (Kd.int .i64) w A0_0 l0_0.length l0_0) (hc0_0 : l0_0.length ≤ c0_0) (h : spec_RowsOk.f k l0_0 a0_1 = some r) :
    Calls Try.prog 39 #[.agg #[.slice A0_0 l0_0.length c0_0, .int .i64 a0_1]] w fun e w' => e = .returned (.bool r) ∧ Below w.heap.size w w' := by
  have hu24 := Try.underlying24
  have HR0_0 := Aside0.mk hr0_0
  have HC0_0 := Aside0.mk hc0_0
  clear hr0_0 hc0_0
  have HB := Aside0.mk (Below.refl w.heap.size w)
  have H := h
  unfold spec_RowsOk.f at H
  clear h
  have H' := Aside0.mk H
  clear H
  go_enter Try.func39, Try.ntmps39
  go_wp2_with (first | (refine boxE 1 #[.slice A0_0 l0_0.length c0_0, .int .i64 a0_1] 24 ?_; intro gbz1 hg wz1 hbox hb; have BKz1 := Aside0.mk (hbox); have GWz1 := Aside0.mk (gX' hg (hX HB.out)); have GEz1 := Aside0.mk (gX' hg (hX HB.out)); replace HB := Aside0.mk (below_step (hX HB.out) hb); clear hb hbox hg))
  go_loopg [3] k (fun kq v3 w' => ∃ (x3_1 : Int), v3 = .int .i64 x3_1 ∧ Aside0 (spec_RowsOk.l0 kq x3_1 l0_0 a0_1 = some r) ∧ Aside0 (kq ≤ k) ∧ Aside0 (w'.heap[gbz1]? = some (.cells #[(.slice A0_0 l0_0.length c0_0), .int .i64 a0_1] 24 (0, 0))) ∧ Aside0 (Below w.heap.size w w'))
  case atStart => exact ⟨(0), rS, H', ⟨Nat.le_refl _⟩, ⟨(bX BKz1.out)⟩, ⟨(hX HB.out)⟩⟩
  case round =>
    clear H'
    try clear p2
    obtain ⟨x3_1, rfl, HA, HKy1, BKz1, HB⟩ := hrel
    cases gk with
    | zero => exact absurd HA.out (by simp [spec_RowsOk.l0])
    | succ k1 =>
      have H := HA.out
      clear HA
      simp only [spec_RowsOk.l0] at H
      by_cases c3 : x3_1 < (l0_0.length : Int)
      · rw [if_pos c3] at H
        have c3b0 := decide_eq_true c3
        clear c3
        replace H := ifP H; obtain ⟨c4, H⟩ := H
        have c4b0 := decide_eq_true c4
        clear c4
        by_cases c5 : (rd l0_0 x3_1) = 0
        · rw [if_pos c5] at H
          obtain ⟨c5b0, c5b1⟩ := eqT c5
          clear c5
          have H' := Aside0.mk H
          clear H
          obtain ⟨hczx1, hczx2, hfzx1, hfzx2⟩ := cZ2 BKz1.out
          try go_wp2
          replace BKz1 := Aside0.mk (blk_drew BKz1.out)
          replace HB := Aside0.mk (below_drew1 HB.out)
          have px1 : 0 ≤ (x3_1 : Int) := of_decide_eq_true (by first | (with_reducible assumption) | assumption)
          have qx1 : x3_1 < (l0_0.length : Int) := of_decide_eq_true (by first | (with_reducible assumption) | assumption)
          obtain ⟨adx1, ex1, hxx1⟩ := Kd.at_int HR0_0.out x3_1 px1 qx1
          have hwx1 := hxx1
          cases ex1
          replace hxx1 := (HB.out.cell (World.block_lt_of_cell? w _ hxx1)).trans hxx1
          replace px1 := eq_true px1
          replace qx1 := eq_true qx1
          refine start_ (n := 26) (S := fun w' => w'.cell? ⟨gbz1, 0, none⟩ = some (.slice (some adx1) l0_0.length c0_0) ∧ w'.cell? ⟨gbz1, 1, none⟩ = some (.int .i64 a0_1) ∧ w'.cell? (adx1.add (x3_1).toNat) = some (.int .i64 (rd l0_0 x3_1))) (ds := []) (bm 26 0) (by kernel_rfl) rfl (by kernel_rfl) ⟨cK BKz1.out 0, cK BKz1.out 1, ((HB.out.cell (World.block_lt_of_cell? w _ hwx1)).trans hwx1)⟩ (fun hHeld => ?_); refine with_tabW spec_RowsOk.tab4 spec_RowsOk.bits4 (fun HT_ HW_ => ?_)
          generalize wr.drew = wx1 at BKz1 HB hxx1 hHeld ⊢
          refine pZ 0 11 (bm 26 1) HT_.out ?_
          refine pZ 2 13 (bm 26 5) HT_.out ?_
          refine tZ 1 12 (bm 26 7) HT_.out HW_.out hHeld ?_
          refine pZ 3 14 (bm 26 15) HT_.out ?_
          refine tZ 4 15 (bm 26 31) HT_.out HW_.out hHeld ?_
          refine pZ 5 16 (bm 26 63) HT_.out ?_
          refine pZ 6 17 (bm 26 127) HT_.out ?_
          refine pU 7 18 (bm 26 255) HT_.out ?_
          refine pU 8 19 (bm 26 511) HT_.out ?_
          refine pU 9 20 (bm 26 1023) HT_.out ?_
          refine pU 10 21 (bm 26 2047) HT_.out ?_
          refine pU 11 22 (bm 26 4095) HT_.out ?_
          refine pU 12 23 (bm 26 8191) HT_.out ?_
          refine pU 13 24 (bm 26 16383) HT_.out ?_
          refine pU 14 25 (bm 26 32767) HT_.out ?_
          refine pU 15 26 (bm 26 65535) HT_.out ?_
          refine pU 16 27 (bm 26 131071) HT_.out ?_
          refine pU 17 28 (bm 26 262143) HT_.out ?_
          refine pU 18 29 (bm 26 524287) HT_.out ?_
          refine pU 19 30 (bm 26 1048575) HT_.out ?_
          refine pU 20 31 (bm 26 2097151) HT_.out ?_
          refine pU 21 32 (bm 26 4194303) HT_.out ?_
          refine pU 22 33 (bm 26 8388607) HT_.out ?_
          refine pU 23 34 (bm 26 16777215) HT_.out ?_
          refine pU 24 35 (bm 26 33554431) HT_.out ?_
          refine pZ 25 36 (bm 26 67108863) HT_.out ?_
          refine done_ (done_of HT_.out (by kernel_rfl)) ?_
          try go_wp2
          go_roundg k1
          case measure => have := HKy1.out; omega
          case rel => exact ⟨(wrap64 (x3_1 + 1)), rS, H', ⟨by have := HKy1.out; omega⟩, ⟨(bX BKz1.out)⟩, ⟨(hX HB.out)⟩⟩
        · rw [if_neg c5] at H
          obtain ⟨c5b0, c5b1⟩ := eqF c5
          replace H := bE H; obtain ⟨t105, A8, H⟩ := H
          by_cases c9 : t105 = true
          · subst c9
            rw [if_pos rfl] at H
            replace H := bE H; obtain ⟨t107, A10, H⟩ := H
            by_cases c11 : t107 = x3_1
            · rw [if_pos c11] at H
              obtain ⟨c11b0, c11b1⟩ := eqT c11
              clear c11
              have H' := Aside0.mk H
              clear H
              obtain ⟨hczx1, hczx2, hfzx1, hfzx2⟩ := cZ2 BKz1.out
              try go_wp2
              replace BKz1 := Aside0.mk (blk_drew BKz1.out)
              replace HB := Aside0.mk (below_drew1 HB.out)
              have px1 : 0 ≤ (x3_1 : Int) := of_decide_eq_true (by first | (with_reducible assumption) | assumption)
              have qx1 : x3_1 < (l0_0.length : Int) := of_decide_eq_true (by first | (with_reducible assumption) | assumption)
              obtain ⟨adx1, ex1, hxx1⟩ := Kd.at_int HR0_0.out x3_1 px1 qx1
              have hwx1 := hxx1
              cases ex1
              replace hxx1 := (HB.out.cell (World.block_lt_of_cell? w _ hxx1)).trans hxx1
              replace px1 := eq_true px1
              replace qx1 := eq_true qx1
              have px2 : 0 ≤ (x3_1 : Int) := of_decide_eq_true (by first | (with_reducible assumption) | assumption)
              have qx2 : x3_1 < (l0_0.length : Int) := of_decide_eq_true (by first | (with_reducible assumption) | assumption)
              obtain ⟨adx2, ex2, hxx2⟩ := Kd.at_int HR0_0.out x3_1 px2 qx2
              have hwx2 := hxx2
              obtain rfl : adx1 = adx2 := (by injection ex2)
              replace hxx2 := (HB.out.cell (World.block_lt_of_cell? w _ hxx2)).trans hxx2
              replace px2 := eq_true px2
              replace qx2 := eq_true qx2
              have px3 : 0 ≤ (x3_1 : Int) := of_decide_eq_true (by first | (with_reducible assumption) | assumption)
              have qx3 : x3_1 < (l0_0.length : Int) := of_decide_eq_true (by first | (with_reducible assumption) | assumption)
              obtain ⟨adx3, ex3, hxx3⟩ := Kd.at_int HR0_0.out x3_1 px3 qx3
              have hwx3 := hxx3
              obtain rfl : adx1 = adx3 := (by injection ex3)
              replace hxx3 := (HB.out.cell (World.block_lt_of_cell? w _ hxx3)).trans hxx3
              replace px3 := eq_true px3
              replace qx3 := eq_true qx3
              refine start_ (n := 26) (S := fun w' => w'.cell? ⟨gbz1, 0, none⟩ = some (.slice (some adx1) l0_0.length c0_0) ∧ w'.cell? ⟨gbz1, 1, none⟩ = some (.int .i64 a0_1) ∧ w'.cell? (adx1.add (x3_1).toNat) = some (.int .i64 (rd l0_0 x3_1)) ∧ w'.cell? (adx1.add (x3_1).toNat) = some (.int .i64 (rd l0_0 x3_1)) ∧ w'.cell? (adx1.add (x3_1).toNat) = some (.int .i64 (rd l0_0 x3_1))) (ds := []) (bm 26 0) (by kernel_rfl) rfl (by kernel_rfl) ⟨cK BKz1.out 0, cK BKz1.out 1, ((HB.out.cell (World.block_lt_of_cell? w _ hwx1)).trans hwx1), ((HB.out.cell (World.block_lt_of_cell? w _ hwx2)).trans hwx2), ((HB.out.cell (World.block_lt_of_cell? w _ hwx3)).trans hwx3)⟩ (fun hHeld => ?_); refine with_tabW spec_RowsOk.tab4 spec_RowsOk.bits4 (fun HT_ HW_ => ?_)
              generalize wr.drew = wx1 at BKz1 HB hxx1 hxx2 hxx3 hHeld ⊢
              refine pZ 0 11 (bm 26 1) HT_.out ?_
              refine pZ 2 13 (bm 26 5) HT_.out ?_
              refine tZ 1 12 (bm 26 7) HT_.out HW_.out hHeld ?_
              refine pZ 3 14 (bm 26 15) HT_.out ?_
              refine tZ 4 15 (bm 26 31) HT_.out HW_.out hHeld ?_
              refine pZ 5 16 (bm 26 63) HT_.out ?_
              refine pZ 6 17 (bm 26 127) HT_.out ?_
              refine pZ 7 18 (bm 26 255) HT_.out ?_
              refine pZ 9 20 (bm 26 767) HT_.out ?_
              refine tZ 8 19 (bm 26 1023) HT_.out HW_.out hHeld ?_
              refine pZ 10 21 (bm 26 2047) HT_.out ?_
              refine tZ 11 22 (bm 26 4095) HT_.out HW_.out hHeld ?_
              refine oZ 12 (some 23) (bm 26 8191) HT_.out (fun K hK => ?_)
              refine goesN Try.func94 #[.int .i64 (rd l0_0 x3_1)] ?_
              with_reducible refine (spec_ValOk.calls (rd l0_0 x3_1) true _ A8.out).mono ?_
              rintro e w' ⟨rfl, ⟨nd, rfl⟩⟩
              refine ⟨_, rfl, ?_⟩
              refine hK.out _ _ ⟨cK BKz1.out 0, cK BKz1.out 1, ((HB.out.cell (World.block_lt_of_cell? w _ hwx1)).trans hwx1), ((HB.out.cell (World.block_lt_of_cell? w _ hwx2)).trans hwx2), ((HB.out.cell (World.block_lt_of_cell? w _ hwx3)).trans hwx3)⟩ (fun hHeld => ?_)
              clear hK K
              refine nZ 23 ?_
              refine pZ 13 24 (bm 26 16383) HT_.out ?_
              refine pZ 14 25 (bm 26 32767) HT_.out ?_
              refine pZ 16 27 (bm 26 98303) HT_.out ?_
              refine pZ 18 29 (bm 26 360447) HT_.out ?_
              refine pZ 22 33 (bm 26 4554751) HT_.out ?_
              refine tZ 15 26 (bm 26 4587519) HT_.out HW_.out hHeld ?_
              refine tZ 17 28 (bm 26 4718591) HT_.out HW_.out hHeld ?_
              refine pZ 19 30 (bm 26 5242879) HT_.out ?_
              refine tZ 20 31 (bm 26 6291455) HT_.out HW_.out hHeld ?_
              refine oZ 21 (some 32) (bm 26 8388607) HT_.out (fun K hK => ?_)
              refine goesN Try.func41 #[.agg #[.slice (some adx1) l0_0.length c0_0, .int .i64 a0_1], .int .i64 (rd l0_0 x3_1)] ?_
              with_reducible refine (spec_KeyOf.calls k1 _ _ l0_0 a0_1 (rd l0_0 x3_1) t107 _ ?side1 ?side2 A10.out).mono ?_
              (case side1 => repeat (first | exact (Kd.C_below HR0_0.out (hX HB.out)) | (with_reducible refine Kd.C_alloc ?_ _) | (with_reducible refine Kd.C_drewN ?_ _) | (with_reducible refine Kd.C_drew ?_)))
              (case side2 => exact HC0_0.out)
              rintro e wx2 ⟨rfl, hb⟩
              refine ⟨_, rfl, ?_⟩
              replace BKz1 := Aside0.mk (blk_below (bX BKz1.out) hb)
              replace HB := Aside0.mk (below_step (hX HB.out) hb)
              (try clear hb)
              (try clear hb2)
              (try clear hk)
              (try clear hi)
              refine hK.out _ _ ⟨cK BKz1.out 0, cK BKz1.out 1, ((HB.out.cell (World.block_lt_of_cell? w _ hwx1)).trans hwx1), ((HB.out.cell (World.block_lt_of_cell? w _ hwx2)).trans hwx2), ((HB.out.cell (World.block_lt_of_cell? w _ hwx3)).trans hwx3)⟩ (fun hHeld => ?_)
              clear hK K
              refine nZ 32 ?_
              refine pZ 23 34 (bm 26 16777215) HT_.out ?_
              refine pZ 24 35 (bm 26 33554431) HT_.out ?_
              refine pZ 25 36 (bm 26 67108863) HT_.out ?_
              refine done_ (done_of HT_.out (by kernel_rfl)) ?_
              try go_wp2
              go_roundg k1
              case measure => have := HKy1.out; omega
              case rel => exact ⟨(wrap64 (x3_1 + 1)), rS, H', ⟨by have := HKy1.out; omega⟩, ⟨(bX BKz1.out)⟩, ⟨(hX HB.out)⟩⟩
            · rw [if_neg c11] at H
              obtain ⟨c11b0, c11b1⟩ := eqF c11
              obtain rfl := Option.some.inj H
              obtain ⟨hczx1, hczx2, hfzx1, hfzx2⟩ := cZ2 BKz1.out
              try go_wp2
              replace BKz1 := Aside0.mk (blk_drew BKz1.out)
              replace HB := Aside0.mk (below_drew1 HB.out)
              have px1 : 0 ≤ (x3_1 : Int) := of_decide_eq_true (by first | (with_reducible assumption) | assumption)
              have qx1 : x3_1 < (l0_0.length : Int) := of_decide_eq_true (by first | (with_reducible assumption) | assumption)
              obtain ⟨adx1, ex1, hxx1⟩ := Kd.at_int HR0_0.out x3_1 px1 qx1
              have hwx1 := hxx1
              cases ex1
              replace hxx1 := (HB.out.cell (World.block_lt_of_cell? w _ hxx1)).trans hxx1
              replace px1 := eq_true px1
              replace qx1 := eq_true qx1
              have px2 : 0 ≤ (x3_1 : Int) := of_decide_eq_true (by first | (with_reducible assumption) | assumption)
              have qx2 : x3_1 < (l0_0.length : Int) := of_decide_eq_true (by first | (with_reducible assumption) | assumption)
              obtain ⟨adx2, ex2, hxx2⟩ := Kd.at_int HR0_0.out x3_1 px2 qx2
              have hwx2 := hxx2
              obtain rfl : adx1 = adx2 := (by injection ex2)
              replace hxx2 := (HB.out.cell (World.block_lt_of_cell? w _ hxx2)).trans hxx2
              replace px2 := eq_true px2
              replace qx2 := eq_true qx2
              have px3 : 0 ≤ (x3_1 : Int) := of_decide_eq_true (by first | (with_reducible assumption) | assumption)
              have qx3 : x3_1 < (l0_0.length : Int) := of_decide_eq_true (by first | (with_reducible assumption) | assumption)
              obtain ⟨adx3, ex3, hxx3⟩ := Kd.at_int HR0_0.out x3_1 px3 qx3
              have hwx3 := hxx3
              obtain rfl : adx1 = adx3 := (by injection ex3)
              replace hxx3 := (HB.out.cell (World.block_lt_of_cell? w _ hxx3)).trans hxx3
              replace px3 := eq_true px3
              replace qx3 := eq_true qx3
              refine start_ (n := 26) (S := fun w' => w'.cell? ⟨gbz1, 0, none⟩ = some (.slice (some adx1) l0_0.length c0_0) ∧ w'.cell? ⟨gbz1, 1, none⟩ = some (.int .i64 a0_1) ∧ w'.cell? (adx1.add (x3_1).toNat) = some (.int .i64 (rd l0_0 x3_1)) ∧ w'.cell? (adx1.add (x3_1).toNat) = some (.int .i64 (rd l0_0 x3_1)) ∧ w'.cell? (adx1.add (x3_1).toNat) = some (.int .i64 (rd l0_0 x3_1))) (ds := []) (bm 26 0) (by kernel_rfl) rfl (by kernel_rfl) ⟨cK BKz1.out 0, cK BKz1.out 1, ((HB.out.cell (World.block_lt_of_cell? w _ hwx1)).trans hwx1), ((HB.out.cell (World.block_lt_of_cell? w _ hwx2)).trans hwx2), ((HB.out.cell (World.block_lt_of_cell? w _ hwx3)).trans hwx3)⟩ (fun hHeld => ?_); refine with_tabW spec_RowsOk.tab4 spec_RowsOk.bits4 (fun HT_ HW_ => ?_)
              generalize wr.drew = wx1 at BKz1 HB hxx1 hxx2 hxx3 hHeld ⊢
              refine pZ 0 11 (bm 26 1) HT_.out ?_
              refine pZ 2 13 (bm 26 5) HT_.out ?_
              refine tZ 1 12 (bm 26 7) HT_.out HW_.out hHeld ?_
              refine pZ 3 14 (bm 26 15) HT_.out ?_
              refine tZ 4 15 (bm 26 31) HT_.out HW_.out hHeld ?_
              refine pZ 5 16 (bm 26 63) HT_.out ?_
              refine pZ 6 17 (bm 26 127) HT_.out ?_
              refine pZ 7 18 (bm 26 255) HT_.out ?_
              refine pZ 9 20 (bm 26 767) HT_.out ?_
              refine tZ 8 19 (bm 26 1023) HT_.out HW_.out hHeld ?_
              refine pZ 10 21 (bm 26 2047) HT_.out ?_
              refine tZ 11 22 (bm 26 4095) HT_.out HW_.out hHeld ?_
              refine oZ 12 (some 23) (bm 26 8191) HT_.out (fun K hK => ?_)
              refine goesN Try.func94 #[.int .i64 (rd l0_0 x3_1)] ?_
              with_reducible refine (spec_ValOk.calls (rd l0_0 x3_1) true _ A8.out).mono ?_
              rintro e w' ⟨rfl, ⟨nd, rfl⟩⟩
              refine ⟨_, rfl, ?_⟩
              refine hK.out _ _ ⟨cK BKz1.out 0, cK BKz1.out 1, ((HB.out.cell (World.block_lt_of_cell? w _ hwx1)).trans hwx1), ((HB.out.cell (World.block_lt_of_cell? w _ hwx2)).trans hwx2), ((HB.out.cell (World.block_lt_of_cell? w _ hwx3)).trans hwx3)⟩ (fun hHeld => ?_)
              clear hK K
              refine nZ 23 ?_
              refine pZ 13 24 (bm 26 16383) HT_.out ?_
              refine pZ 14 25 (bm 26 32767) HT_.out ?_
              refine pZ 16 27 (bm 26 98303) HT_.out ?_
              refine pZ 18 29 (bm 26 360447) HT_.out ?_
              refine pZ 22 33 (bm 26 4554751) HT_.out ?_
              refine tZ 15 26 (bm 26 4587519) HT_.out HW_.out hHeld ?_
              refine tZ 17 28 (bm 26 4718591) HT_.out HW_.out hHeld ?_
              refine pZ 19 30 (bm 26 5242879) HT_.out ?_
              refine tZ 20 31 (bm 26 6291455) HT_.out HW_.out hHeld ?_
              refine oZ 21 (some 32) (bm 26 8388607) HT_.out (fun K hK => ?_)
              refine goesN Try.func41 #[.agg #[.slice (some adx1) l0_0.length c0_0, .int .i64 a0_1], .int .i64 (rd l0_0 x3_1)] ?_
              with_reducible refine (spec_KeyOf.calls k1 _ _ l0_0 a0_1 (rd l0_0 x3_1) t107 _ ?side1 ?side2 A10.out).mono ?_
              (case side1 => repeat (first | exact (Kd.C_below HR0_0.out (hX HB.out)) | (with_reducible refine Kd.C_alloc ?_ _) | (with_reducible refine Kd.C_drewN ?_ _) | (with_reducible refine Kd.C_drew ?_)))
              (case side2 => exact HC0_0.out)
              rintro e wx2 ⟨rfl, hb⟩
              refine ⟨_, rfl, ?_⟩
              replace BKz1 := Aside0.mk (blk_below (bX BKz1.out) hb)
              replace HB := Aside0.mk (below_step (hX HB.out) hb)
              (try clear hb)
              (try clear hb2)
              (try clear hk)
              (try clear hi)
              refine hK.out _ _ ⟨cK BKz1.out 0, cK BKz1.out 1, ((HB.out.cell (World.block_lt_of_cell? w _ hwx1)).trans hwx1), ((HB.out.cell (World.block_lt_of_cell? w _ hwx2)).trans hwx2), ((HB.out.cell (World.block_lt_of_cell? w _ hwx3)).trans hwx3)⟩ (fun hHeld => ?_)
              clear hK K
              refine nZ 32 ?_
              refine pZ 23 34 (bm 26 16777215) HT_.out ?_
              refine pZ 24 35 (bm 26 33554431) HT_.out ?_
              refine pZ 25 36 (bm 26 67108863) HT_.out ?_
              refine done_ (done_of HT_.out (by kernel_rfl)) ?_
              try go_wp2
              go_ret
              exact ⟨rE, (hX HB.out)⟩
          · replace c9 := Bool.eq_false_iff.mpr c9
            subst c9
            rw [if_neg nft] at H
            obtain rfl := Option.some.inj H
            obtain ⟨hczx1, hczx2, hfzx1, hfzx2⟩ := cZ2 BKz1.out
            try go_wp2
            replace BKz1 := Aside0.mk (blk_drew BKz1.out)
            replace HB := Aside0.mk (below_drew1 HB.out)
            have px1 : 0 ≤ (x3_1 : Int) := of_decide_eq_true (by first | (with_reducible assumption) | assumption)
            have qx1 : x3_1 < (l0_0.length : Int) := of_decide_eq_true (by first | (with_reducible assumption) | assumption)
            obtain ⟨adx1, ex1, hxx1⟩ := Kd.at_int HR0_0.out x3_1 px1 qx1
            have hwx1 := hxx1
            cases ex1
            replace hxx1 := (HB.out.cell (World.block_lt_of_cell? w _ hxx1)).trans hxx1
            replace px1 := eq_true px1
            replace qx1 := eq_true qx1
            have px2 : 0 ≤ (x3_1 : Int) := of_decide_eq_true (by first | (with_reducible assumption) | assumption)
            have qx2 : x3_1 < (l0_0.length : Int) := of_decide_eq_true (by first | (with_reducible assumption) | assumption)
            obtain ⟨adx2, ex2, hxx2⟩ := Kd.at_int HR0_0.out x3_1 px2 qx2
            have hwx2 := hxx2
            obtain rfl : adx1 = adx2 := (by injection ex2)
            replace hxx2 := (HB.out.cell (World.block_lt_of_cell? w _ hxx2)).trans hxx2
            replace px2 := eq_true px2
            replace qx2 := eq_true qx2
            refine start_ (n := 26) (S := fun w' => w'.cell? ⟨gbz1, 0, none⟩ = some (.slice (some adx1) l0_0.length c0_0) ∧ w'.cell? ⟨gbz1, 1, none⟩ = some (.int .i64 a0_1) ∧ w'.cell? (adx1.add (x3_1).toNat) = some (.int .i64 (rd l0_0 x3_1)) ∧ w'.cell? (adx1.add (x3_1).toNat) = some (.int .i64 (rd l0_0 x3_1))) (ds := []) (bm 26 0) (by kernel_rfl) rfl (by kernel_rfl) ⟨cK BKz1.out 0, cK BKz1.out 1, ((HB.out.cell (World.block_lt_of_cell? w _ hwx1)).trans hwx1), ((HB.out.cell (World.block_lt_of_cell? w _ hwx2)).trans hwx2)⟩ (fun hHeld => ?_); refine with_tabW spec_RowsOk.tab4 spec_RowsOk.bits4 (fun HT_ HW_ => ?_)
            generalize wr.drew = wx1 at BKz1 HB hxx1 hxx2 hHeld ⊢
            refine pZ 0 11 (bm 26 1) HT_.out ?_
            refine pZ 2 13 (bm 26 5) HT_.out ?_
            refine tZ 1 12 (bm 26 7) HT_.out HW_.out hHeld ?_
            refine pZ 3 14 (bm 26 15) HT_.out ?_
            refine tZ 4 15 (bm 26 31) HT_.out HW_.out hHeld ?_
            refine pZ 5 16 (bm 26 63) HT_.out ?_
            refine pZ 6 17 (bm 26 127) HT_.out ?_
            refine pZ 7 18 (bm 26 255) HT_.out ?_
            refine pZ 9 20 (bm 26 767) HT_.out ?_
            refine tZ 8 19 (bm 26 1023) HT_.out HW_.out hHeld ?_
            refine pZ 10 21 (bm 26 2047) HT_.out ?_
            refine tZ 11 22 (bm 26 4095) HT_.out HW_.out hHeld ?_
            refine oZ 12 (some 23) (bm 26 8191) HT_.out (fun K hK => ?_)
            refine goesN Try.func94 #[.int .i64 (rd l0_0 x3_1)] ?_
            with_reducible refine (spec_ValOk.calls (rd l0_0 x3_1) false _ A8.out).mono ?_
            rintro e w' ⟨rfl, ⟨nd, rfl⟩⟩
            refine ⟨_, rfl, ?_⟩
            refine hK.out _ _ ⟨cK BKz1.out 0, cK BKz1.out 1, ((HB.out.cell (World.block_lt_of_cell? w _ hwx1)).trans hwx1), ((HB.out.cell (World.block_lt_of_cell? w _ hwx2)).trans hwx2)⟩ (fun hHeld => ?_)
            clear hK K
            refine nZ 23 ?_
            refine pZ 13 24 (bm 26 16383) HT_.out ?_
            refine pZ 14 25 (bm 26 32767) HT_.out ?_
            refine pU 15 26 (bm 26 65535) HT_.out ?_
            refine pU 16 27 (bm 26 131071) HT_.out ?_
            refine pU 17 28 (bm 26 262143) HT_.out ?_
            refine pU 18 29 (bm 26 524287) HT_.out ?_
            refine pU 19 30 (bm 26 1048575) HT_.out ?_
            refine pU 20 31 (bm 26 2097151) HT_.out ?_
            refine pU 21 32 (bm 26 4194303) HT_.out ?_
            refine pU 22 33 (bm 26 8388607) HT_.out ?_
            refine pU 23 34 (bm 26 16777215) HT_.out ?_
            refine pZ 24 35 (bm 26 33554431) HT_.out ?_
            refine pZ 25 36 (bm 26 67108863) HT_.out ?_
            refine done_ (done_of HT_.out (by kernel_rfl)) ?_
            try go_wp2
            go_ret
            exact ⟨rE, (hX HB.out)⟩
      · rw [if_neg c3] at H
        have c3b0 := decide_eq_false c3
        clear c3
        by_cases c20 : (l0_0.length : Int) = 4
        · rw [if_pos c20] at H
          obtain ⟨c20b0, c20b1⟩ := eqT c20
          clear c20
          replace H := bE H; obtain ⟨t102, A21, H⟩ := H
          obtain rfl := Option.some.inj H
          obtain ⟨hczx1, hczx2, hfzx1, hfzx2⟩ := cZ2 BKz1.out
          go_wp2_with (first | (go_at_call 95; (with_reducible refine (spec_l1In.calls a0_1 0 5 t102 _ A21.out).mono ?_); rintro e w' ⟨rfl, ⟨nd, rfl⟩⟩))
          go_ret
          exact ⟨rE, (hX HB.out)⟩
        · rw [if_neg c20] at H
          obtain ⟨c20b0, c20b1⟩ := eqF c20
          obtain rfl := Option.some.inj H
          obtain ⟨hczx1, hczx2, hfzx1, hfzx2⟩ := cZ2 BKz1.out
          go_wp2
          go_ret
          exact ⟨rE, (hX HB.out)⟩
end Go.Proofs.Yteamagejhbkhnaa.P
namespace Go.Proofs.Yteamagejhbkhnaa.P
open Go.Proofs.YteamagejhbkhnaaZ Go.RowKit Go.Proofs.YteamagejhbkhnaaW.PrintWords Go.Proofs.YteamagejhbkhnaaW.PrintLast Go.Proofs.YteamagejhbkhnaaW.PrintMore
attribute [local go_sem] max2_int min2_int max_two min_two max_three min_three max_four min_four   -- for this text's walks alone
set_option linter.unusedVariables false
set_option linter.unusedSimpArgs false
def spec_l1Bit.f (a0 : Bool) : Option (Int) := if a0 = true then (some 1) else (some 0)
set_option maxHeartbeats 8000000 in
set_option maxRecDepth 100000 in
theorem spec_l1Bit.calls (a0 : Bool) (r : Int) (w : World) (h : spec_l1Bit.f a0 = some r) :
    Calls Try.prog 97 #[.bool a0] w fun e w' => e = .returned (.int .i64 r) ∧ Drawn0 w w' := by
  have H := h
  unfold spec_l1Bit.f at H
  clear h
  go_enter Try.func97, Try.ntmps97
  by_cases c2 : a0 = true
  · subst c2
    rw [if_pos rfl] at H
    obtain rfl := Option.some.inj H
    go_wp2
    go_ret
    exact ⟨by first | rfl | (simp; done) | (simp [*]; done), dX⟩
  · replace c2 := Bool.eq_false_iff.mpr c2
    subst c2
    rw [if_neg nft] at H
    obtain rfl := Option.some.inj H
    go_wp2
    go_ret
    exact ⟨by first | rfl | (simp; done) | (simp [*]; done), dX⟩
end Go.Proofs.Yteamagejhbkhnaa.P
namespace Go.Proofs.Yteamagejhbkhnaa.P
open Go.Proofs.YteamagejhbkhnaaZ Go.RowKit Go.Proofs.YteamagejhbkhnaaW.PrintWords Go.Proofs.YteamagejhbkhnaaW.PrintLast Go.Proofs.YteamagejhbkhnaaW.PrintMore
attribute [local go_sem] max2_int min2_int max_two min_two max_three min_three max_four min_four   -- for this text's walks alone
set_option linter.unusedVariables false
set_option linter.unusedSimpArgs false
def spec_ClassOf.f (a0 : Int) : Option (Int) := (spec_ValOk.f a0).bind fun t101 => (if t101 = true then (some (Int.tmod a0 3)) else (some (-1)))
set_option maxHeartbeats 8000000 in
set_option maxRecDepth 100000 in
theorem spec_ClassOf.calls (a0 : Int) (r : Int) (w : World) (h : spec_ClassOf.f a0 = some r) :
    Calls Try.prog 98 #[.int .i64 a0] w fun e w' => e = .returned (.int .i64 r) ∧ Drawn0 w w' := by
  have H := h
  unfold spec_ClassOf.f at H
  clear h
  replace H := bE H; obtain ⟨t101, A2, H⟩ := H
  go_enter Try.func98, Try.ntmps98
  by_cases c3 : t101 = true
  · subst c3
    rw [if_pos rfl] at H
    obtain rfl := Option.some.inj H
    go_wp2_with (first | (refine goesM 94 4 Try.func94 #[.int .i64 a0] ?_; refine (spec_ValOk.calls a0 true _ A2.out).mono ?_; rintro e w' ⟨rfl, ⟨nd, rfl⟩⟩; refine ⟨_, rfl, ?_⟩))
    go_ret
    exact ⟨by first | rfl | (simp; done) | (simp [*]; done), dX⟩
  · replace c3 := Bool.eq_false_iff.mpr c3
    subst c3
    rw [if_neg nft] at H
    obtain rfl := Option.some.inj H
    go_wp2_with (first | (refine goesM 94 4 Try.func94 #[.int .i64 a0] ?_; refine (spec_ValOk.calls a0 false _ A2.out).mono ?_; rintro e w' ⟨rfl, ⟨nd, rfl⟩⟩; refine ⟨_, rfl, ?_⟩))
    go_ret
    exact ⟨by first | rfl | (simp; done) | (simp [*]; done), dX⟩
end Go.Proofs.Yteamagejhbkhnaa.P
namespace Go.Proofs.Yteamagejhbkhnaa.P
open Go.Proofs.YteamagejhbkhnaaZ Go.RowKit Go.Proofs.YteamagejhbkhnaaW.PrintWords Go.Proofs.YteamagejhbkhnaaW.PrintLast Go.Proofs.YteamagejhbkhnaaW.PrintMore
attribute [local go_sem] max2_int min2_int max_two min_two max_three min_three max_four min_four   -- for this text's walks alone
set_option linter.unusedVariables false
set_option linter.unusedSimpArgs false
def spec_HowMany.l0 : Nat → Int → Int → Int → List Int → Int → Option (Int)
  | 0, _, _, _, _, _ => none
  | k + 1, x1, x5, x6, x102000, x102001 => if x6 < (x102000.length : Int) then (if 0 ≤ x6 then ((spec_ValOk.f (rd x102000 x6)).bind fun t103 => (if t103 = true then ((spec_ClassOf.f (rd x102000 x6)).bind fun t105 => ((spec_l1Bit.f (t105 == x1)).bind fun t106 => (spec_HowMany.l0 k x1 (wrap64 (x5 + t106)) (wrap64 (x6 + 1)) x102000 x102001))) else ((spec_l1Bit.f false).bind fun t107 => (spec_HowMany.l0 k x1 (wrap64 (x5 + t107)) (wrap64 (x6 + 1)) x102000 x102001)))) else (none)) else (some x5)
def spec_HowMany.f (k : Nat) (l0_0 : List Int) (a0_1 : Int) (a1 : Int) : Option (Int) := spec_HowMany.l0 k a1 0 0 l0_0 a0_1
set_option maxHeartbeats 8000000 in
set_option maxRecDepth 100000 in
theorem spec_HowMany.calls (k : Nat) (A0_0 : Option Addr) (c0_0 : Nat) (l0_0 : List Int) (a0_1 : Int) (a1 : Int) (r : Int) (w : World) (hr0_0 : Kd.C (Kd.int .i64) w A0_0 l0_0.length l0_0) (hc0_0 : l0_0.length ≤ c0_0) (h : spec_HowMany.f k l0_0 a0_1 a1 = some r) :
    Calls Try.prog 43 #[.agg #[.slice A0_0 l0_0.length c0_0, .int .i64 a0_1], .int .i64 a1] w fun e w' => e = .returned (.int .i64 r) ∧ Below w.heap.size w w' := by
  have hu24 := Try.underlying24
  have HR0_0 := Aside0.mk hr0_0
  have HC0_0 := Aside0.mk hc0_0
  clear hr0_0 hc0_0
  have HB := Aside0.mk (Below.refl w.heap.size w)
  have H := h
  unfold spec_HowMany.f at H
  clear h
  have H' := Aside0.mk H
  clear H
  go_enter Try.func43, Try.ntmps43
  go_wp2_with (first | (refine boxE 2 #[.slice A0_0 l0_0.length c0_0, .int .i64 a0_1] 24 ?_; intro gbz1 hg wz1 hbox hb; have BKz1 := Aside0.mk (hbox); have GWz1 := Aside0.mk (gX' hg (hX HB.out)); have GEz1 := Aside0.mk (gX' hg (hX HB.out)); replace HB := Aside0.mk (below_step (hX HB.out) hb); clear hb hbox hg))
  go_loopg [5, 6] k (fun kq v5 v6 w' => ∃ (x5_1 : Int) (x6_1 : Int), v5 = .int .i64 x5_1 ∧ v6 = .int .i64 x6_1 ∧ Aside0 (spec_HowMany.l0 kq a1 x5_1 x6_1 l0_0 a0_1 = some r) ∧ Aside0 (kq ≤ k) ∧ Aside0 (w'.heap[gbz1]? = some (.cells #[(.slice A0_0 l0_0.length c0_0), .int .i64 a0_1] 24 (0, 0))) ∧ Aside0 (Below w.heap.size w w'))
  case atStart => exact ⟨(0), (0), rS, rS, H', ⟨Nat.le_refl _⟩, ⟨(bX BKz1.out)⟩, ⟨(hX HB.out)⟩⟩
  case round =>
    clear H'
    try clear p2
    obtain ⟨x5_1, x6_1, rfl, rfl, HA, HKy1, BKz1, HB⟩ := hrel
    cases gk with
    | zero => exact absurd HA.out (by simp [spec_HowMany.l0])
    | succ k1 =>
      have H := HA.out
      clear HA
      simp only [spec_HowMany.l0] at H
      by_cases c4 : x6_1 < (l0_0.length : Int)
      · rw [if_pos c4] at H
        have c4b0 := decide_eq_true c4
        clear c4
        replace H := ifP H; obtain ⟨c5, H⟩ := H
        have c5b0 := decide_eq_true c5
        clear c5
        replace H := bE H; obtain ⟨t103, A6, H⟩ := H
        by_cases c7 : t103 = true
        · subst c7
          rw [if_pos rfl] at H
          replace H := bE H; obtain ⟨t105, A8, H⟩ := H
          replace H := bE H; obtain ⟨t106, A9, H⟩ := H
          have H' := Aside0.mk H
          clear H
          obtain ⟨hczx1, hczx2, hfzx1, hfzx2⟩ := cZ2 BKz1.out
          have px1 : 0 ≤ (x6_1 : Int) := of_decide_eq_true (by first | (with_reducible assumption) | assumption)
          have qx1 : x6_1 < (l0_0.length : Int) := of_decide_eq_true (by first | (with_reducible assumption) | assumption)
          obtain ⟨adx1, ex1, hxx1⟩ := Kd.at_int HR0_0.out x6_1 px1 qx1
          cases ex1
          replace hxx1 := (HB.out.cell (World.block_lt_of_cell? w _ hxx1)).trans hxx1
          replace px1 := eq_true px1
          replace qx1 := eq_true qx1
          go_wp2_with (first | (refine goesM 94 20 Try.func94 #[.int .i64 (rd l0_0 x6_1)] ?_; refine (spec_ValOk.calls (rd l0_0 x6_1) true _ A6.out).mono ?_; rintro e w' ⟨rfl, ⟨nd, rfl⟩⟩; refine ⟨_, rfl, ?_⟩; have px2 : 0 ≤ (x6_1 : Int) := of_decide_eq_true (by first | (with_reducible assumption) | assumption); have qx2 : x6_1 < (l0_0.length : Int) := of_decide_eq_true (by first | (with_reducible assumption) | assumption); obtain ⟨adx2, ex2, hxx2⟩ := Kd.at_int HR0_0.out x6_1 px2 qx2; obtain rfl : adx1 = adx2 := (by injection ex2); replace hxx2 := (HB.out.cell (World.block_lt_of_cell? w _ hxx2)).trans hxx2; replace px2 := eq_true px2; replace qx2 := eq_true qx2) | (go_at_call 98; (with_reducible refine (spec_ClassOf.calls (rd l0_0 x6_1) t105 _ A8.out).mono ?_); rintro e w' ⟨rfl, ⟨nd, rfl⟩⟩) | (refine goesM 97 31 Try.func97 #[.bool (t105 == a1)] ?_; refine (spec_l1Bit.calls (t105 == a1) t106 _ A9.out).mono ?_; rintro e w' ⟨rfl, ⟨nd, rfl⟩⟩; refine ⟨_, rfl, ?_⟩))
          go_roundg k1
          case measure => have := HKy1.out; omega
          case rel => exact ⟨(wrap64 (x5_1 + t106)), (wrap64 (x6_1 + 1)), rS, rS, H', ⟨by have := HKy1.out; omega⟩, ⟨(bX BKz1.out)⟩, ⟨(hX HB.out)⟩⟩
        · replace c7 := Bool.eq_false_iff.mpr c7
          subst c7
          rw [if_neg nft] at H
          replace H := bE H; obtain ⟨t107, A11, H⟩ := H
          have H' := Aside0.mk H
          clear H
          obtain ⟨hczx1, hczx2, hfzx1, hfzx2⟩ := cZ2 BKz1.out
          have px1 : 0 ≤ (x6_1 : Int) := of_decide_eq_true (by first | (with_reducible assumption) | assumption)
          have qx1 : x6_1 < (l0_0.length : Int) := of_decide_eq_true (by first | (with_reducible assumption) | assumption)
          obtain ⟨adx1, ex1, hxx1⟩ := Kd.at_int HR0_0.out x6_1 px1 qx1
          cases ex1
          replace hxx1 := (HB.out.cell (World.block_lt_of_cell? w _ hxx1)).trans hxx1
          replace px1 := eq_true px1
          replace qx1 := eq_true qx1
          go_wp2_with (first | (refine goesM 94 20 Try.func94 #[.int .i64 (rd l0_0 x6_1)] ?_; refine (spec_ValOk.calls (rd l0_0 x6_1) false _ A6.out).mono ?_; rintro e w' ⟨rfl, ⟨nd, rfl⟩⟩; refine ⟨_, rfl, ?_⟩) | (refine goesM 97 31 Try.func97 #[.bool false] ?_; refine (spec_l1Bit.calls false t107 _ A11.out).mono ?_; rintro e w' ⟨rfl, ⟨nd, rfl⟩⟩; refine ⟨_, rfl, ?_⟩))
          go_roundg k1
          case measure => have := HKy1.out; omega
          case rel => exact ⟨(wrap64 (x5_1 + t107)), (wrap64 (x6_1 + 1)), rS, rS, H', ⟨by have := HKy1.out; omega⟩, ⟨(bX BKz1.out)⟩, ⟨(hX HB.out)⟩⟩
      · rw [if_neg c4] at H
        have c4b0 := decide_eq_false c4
        clear c4
        obtain rfl := Option.some.inj H
        obtain ⟨hczx1, hczx2, hfzx1, hfzx2⟩ := cZ2 BKz1.out
        go_wp2
        go_ret
        exact ⟨rE, (hX HB.out)⟩
end Go.Proofs.Yteamagejhbkhnaa.P
namespace Go.Proofs.Yteamagejhbkhnaa.P
open Go.Proofs.YteamagejhbkhnaaZ Go.RowKit Go.Proofs.YteamagejhbkhnaaW.PrintWords Go.Proofs.YteamagejhbkhnaaW.PrintLast Go.Proofs.YteamagejhbkhnaaW.PrintMore
attribute [local go_sem] max2_int min2_int max_two min_two max_three min_three max_four min_four   -- for this text's walks alone
set_option linter.unusedVariables false
set_option linter.unusedSimpArgs false
def spec_StateAt.f  : Option (Int) := some 13
set_option maxHeartbeats 8000000 in
set_option maxRecDepth 100000 in
theorem spec_StateAt.calls  (r : Int) (w : World) (h : spec_StateAt.f  = some r) :
    Calls Try.prog 74 #[] w fun e w' => e = .returned (.int .i64 r) ∧ Drawn0 w w' := by
  have H := h
  unfold spec_StateAt.f at H
  clear h
  obtain rfl := Option.some.inj H
  go_enter Try.func74, Try.ntmps74
  go_wp2
  go_ret
  exact ⟨by first | rfl | (simp; done) | (simp [*]; done), dX⟩
end Go.Proofs.Yteamagejhbkhnaa.P
namespace Go.Proofs.Yteamagejhbkhnaa.P
open Go.Proofs.YteamagejhbkhnaaZ Go.RowKit Go.Proofs.YteamagejhbkhnaaW.PrintWords Go.Proofs.YteamagejhbkhnaaW.PrintLast Go.Proofs.YteamagejhbkhnaaW.PrintMore
attribute [local go_sem] max2_int min2_int max_two min_two max_three min_three max_four min_four   -- for this text's walks alone
set_option linter.unusedVariables false
set_option linter.unusedSimpArgs false
def spec_OwnerAt.f (a0 : Int) : Option (Int) := (spec_ValOk.f a0).bind fun t101 => (if t101 = true then (some (wrap64 (3 + a0))) else (some (-1)))
set_option maxHeartbeats 8000000 in
set_option maxRecDepth 100000 in
theorem spec_OwnerAt.calls (a0 : Int) (r : Int) (w : World) (h : spec_OwnerAt.f a0 = some r) :
    Calls Try.prog 80 #[.int .i64 a0] w fun e w' => e = .returned (.int .i64 r) ∧ Drawn0 w w' := by
  have H := h
  unfold spec_OwnerAt.f at H
  clear h
  replace H := bE H; obtain ⟨t101, A2, H⟩ := H
  go_enter Try.func80, Try.ntmps80
  by_cases c3 : t101 = true
  · subst c3
    rw [if_pos rfl] at H
    obtain rfl := Option.some.inj H
    go_wp2_with (first | (refine goesM 94 4 Try.func94 #[.int .i64 a0] ?_; refine (spec_ValOk.calls a0 true _ A2.out).mono ?_; rintro e w' ⟨rfl, ⟨nd, rfl⟩⟩; refine ⟨_, rfl, ?_⟩))
    go_ret
    exact ⟨by first | rfl | (simp; done) | (simp [*]; done), dX⟩
  · replace c3 := Bool.eq_false_iff.mpr c3
    subst c3
    rw [if_neg nft] at H
    obtain rfl := Option.some.inj H
    go_wp2_with (first | (refine goesM 94 4 Try.func94 #[.int .i64 a0] ?_; refine (spec_ValOk.calls a0 false _ A2.out).mono ?_; rintro e w' ⟨rfl, ⟨nd, rfl⟩⟩; refine ⟨_, rfl, ?_⟩))
    go_ret
    exact ⟨by first | rfl | (simp; done) | (simp [*]; done), dX⟩
end Go.Proofs.Yteamagejhbkhnaa.P
namespace Go.Proofs.Yteamagejhbkhnaa.P
open Go.Proofs.YteamagejhbkhnaaZ Go.RowKit Go.Proofs.YteamagejhbkhnaaW.PrintWords Go.Proofs.YteamagejhbkhnaaW.PrintLast Go.Proofs.YteamagejhbkhnaaW.PrintMore
attribute [local go_sem] max2_int min2_int max_two min_two max_three min_three max_four min_four   -- for this text's walks alone
set_option linter.unusedVariables false
set_option linter.unusedSimpArgs false
def spec_ViaAt.f (a0 : Int) : Option (Int) := (spec_ValOk.f a0).bind fun t101 => (if t101 = true then ((spec_StateAt.f).bind fun t102 => (some (wrap64 (t102 + a0)))) else (some (-1)))
set_option maxHeartbeats 8000000 in
set_option maxRecDepth 100000 in
theorem spec_ViaAt.calls (a0 : Int) (r : Int) (w : World) (h : spec_ViaAt.f a0 = some r) :
    Calls Try.prog 82 #[.int .i64 a0] w fun e w' => e = .returned (.int .i64 r) ∧ Drawn0 w w' := by
  have H := h
  unfold spec_ViaAt.f at H
  clear h
  replace H := bE H; obtain ⟨t101, A2, H⟩ := H
  go_enter Try.func82, Try.ntmps82
  by_cases c3 : t101 = true
  · subst c3
    rw [if_pos rfl] at H
    replace H := bE H; obtain ⟨t102, A4, H⟩ := H
    obtain rfl := Option.some.inj H
    go_wp2_with (first | (refine goesM 94 4 Try.func94 #[.int .i64 a0] ?_; refine (spec_ValOk.calls a0 true _ A2.out).mono ?_; rintro e w' ⟨rfl, ⟨nd, rfl⟩⟩; refine ⟨_, rfl, ?_⟩) | (refine goesM 74 6 Try.func74 #[] ?_; refine (spec_StateAt.calls  t102 _ A4.out).mono ?_; rintro e w' ⟨rfl, ⟨nd, rfl⟩⟩; refine ⟨_, rfl, ?_⟩))
    go_ret
    exact ⟨by first | rfl | (simp; done) | (simp [*]; done), dX⟩
  · replace c3 := Bool.eq_false_iff.mpr c3
    subst c3
    rw [if_neg nft] at H
    obtain rfl := Option.some.inj H
    go_wp2_with (first | (refine goesM 94 4 Try.func94 #[.int .i64 a0] ?_; refine (spec_ValOk.calls a0 false _ A2.out).mono ?_; rintro e w' ⟨rfl, ⟨nd, rfl⟩⟩; refine ⟨_, rfl, ?_⟩))
    go_ret
    exact ⟨by first | rfl | (simp; done) | (simp [*]; done), dX⟩
end Go.Proofs.Yteamagejhbkhnaa.P
namespace Go.Proofs.Yteamagejhbkhnaa.P
open Go.Proofs.YteamagejhbkhnaaZ Go.RowKit Go.Proofs.YteamagejhbkhnaaW.PrintWords Go.Proofs.YteamagejhbkhnaaW.PrintLast Go.Proofs.YteamagejhbkhnaaW.PrintMore
attribute [local go_sem] max2_int min2_int max_two min_two max_three min_three max_four min_four   -- for this text's walks alone
set_option linter.unusedVariables false
set_option linter.unusedSimpArgs false
def spec_KeyOk.f (a0 : Int) : Option (Bool) := (spec_l1In.f a0 0 3).bind fun t101 => (some t101)
set_option maxHeartbeats 8000000 in
set_option maxRecDepth 100000 in
theorem spec_KeyOk.calls (a0 : Int) (r : Bool) (w : World) (h : spec_KeyOk.f a0 = some r) :
    Calls Try.prog 127 #[.int .i64 a0] w fun e w' => e = .returned (.bool r) ∧ Drawn0 w w' := by
  have H := h
  unfold spec_KeyOk.f at H
  clear h
  replace H := bE H; obtain ⟨t101, A2, H⟩ := H
  obtain rfl := Option.some.inj H
  go_enter Try.func127, Try.ntmps127
  go_wp2_with (first | (refine goesM 95 4 Try.func95 #[.int .i64 a0, .int .i64 0, .int .i64 3] ?_; refine (spec_l1In.calls a0 0 3 t101 _ A2.out).mono ?_; rintro e w' ⟨rfl, ⟨nd, rfl⟩⟩; refine ⟨_, rfl, ?_⟩))
  go_ret
  exact ⟨by first | rfl | (simp; done) | (simp [*]; done), dX⟩
end Go.Proofs.Yteamagejhbkhnaa.P
namespace Go.Proofs.Yteamagejhbkhnaa.P
open Go.Proofs.YteamagejhbkhnaaZ Go.RowKit Go.Proofs.YteamagejhbkhnaaW.PrintWords Go.Proofs.YteamagejhbkhnaaW.PrintLast Go.Proofs.YteamagejhbkhnaaW.PrintMore
attribute [local go_sem] max2_int min2_int max_two min_two max_three min_three max_four min_four   -- for this text's walks alone
set_option linter.unusedVariables false
set_option linter.unusedSimpArgs false
def spec_RowAt.f (a0 : Int) : Option (Int) := (spec_KeyOk.f a0).bind fun t101 => (if t101 = true then (some a0) else (some (-1)))
set_option maxHeartbeats 8000000 in
set_option maxRecDepth 100000 in
theorem spec_RowAt.calls (a0 : Int) (r : Int) (w : World) (h : spec_RowAt.f a0 = some r) :
    Calls Try.prog 89 #[.int .i64 a0] w fun e w' => e = .returned (.int .i64 r) ∧ Drawn0 w w' := by
  have H := h
  unfold spec_RowAt.f at H
  clear h
  replace H := bE H; obtain ⟨t101, A2, H⟩ := H
  go_enter Try.func89, Try.ntmps89
  by_cases c3 : t101 = true
  · subst c3
    rw [if_pos rfl] at H
    obtain rfl := Option.some.inj H
    go_wp2_with (first | (refine goesM 127 4 Try.func127 #[.int .i64 a0] ?_; refine (spec_KeyOk.calls a0 true _ A2.out).mono ?_; rintro e w' ⟨rfl, ⟨nd, rfl⟩⟩; refine ⟨_, rfl, ?_⟩))
    go_ret
    exact ⟨by first | rfl | (simp; done) | (simp [*]; done), dX⟩
  · replace c3 := Bool.eq_false_iff.mpr c3
    subst c3
    rw [if_neg nft] at H
    obtain rfl := Option.some.inj H
    go_wp2_with (first | (refine goesM 127 4 Try.func127 #[.int .i64 a0] ?_; refine (spec_KeyOk.calls a0 false _ A2.out).mono ?_; rintro e w' ⟨rfl, ⟨nd, rfl⟩⟩; refine ⟨_, rfl, ?_⟩))
    go_ret
    exact ⟨by first | rfl | (simp; done) | (simp [*]; done), dX⟩
end Go.Proofs.Yteamagejhbkhnaa.P
namespace Go.Proofs.Yteamagejhbkhnaa.P
open Go.Proofs.YteamagejhbkhnaaZ Go.RowKit Go.Proofs.YteamagejhbkhnaaW.PrintWords Go.Proofs.YteamagejhbkhnaaW.PrintLast Go.Proofs.YteamagejhbkhnaaW.PrintMore
attribute [local go_sem] max2_int min2_int max_two min_two max_three min_three max_four min_four   -- for this text's walks alone
set_option linter.unusedVariables false
set_option linter.unusedSimpArgs false
def spec_CountAt.f (a0 : Int) : Option (Int) := (spec_l1In.f a0 0 2).bind fun t101 => (if t101 = true then (some (wrap64 (10 + a0))) else (some (-1)))
set_option maxHeartbeats 8000000 in
set_option maxRecDepth 100000 in
theorem spec_CountAt.calls (a0 : Int) (r : Int) (w : World) (h : spec_CountAt.f a0 = some r) :
    Calls Try.prog 90 #[.int .i64 a0] w fun e w' => e = .returned (.int .i64 r) ∧ Drawn0 w w' := by
  have H := h
  unfold spec_CountAt.f at H
  clear h
  replace H := bE H; obtain ⟨t101, A2, H⟩ := H
  go_enter Try.func90, Try.ntmps90
  by_cases c3 : t101 = true
  · subst c3
    rw [if_pos rfl] at H
    obtain rfl := Option.some.inj H
    go_wp2_with (first | (refine goesM 95 4 Try.func95 #[.int .i64 a0, .int .i64 0, .int .i64 2] ?_; refine (spec_l1In.calls a0 0 2 true _ A2.out).mono ?_; rintro e w' ⟨rfl, ⟨nd, rfl⟩⟩; refine ⟨_, rfl, ?_⟩))
    go_ret
    exact ⟨by first | rfl | (simp; done) | (simp [*]; done), dX⟩
  · replace c3 := Bool.eq_false_iff.mpr c3
    subst c3
    rw [if_neg nft] at H
    obtain rfl := Option.some.inj H
    go_wp2_with (first | (refine goesM 95 4 Try.func95 #[.int .i64 a0, .int .i64 0, .int .i64 2] ?_; refine (spec_l1In.calls a0 0 2 false _ A2.out).mono ?_; rintro e w' ⟨rfl, ⟨nd, rfl⟩⟩; refine ⟨_, rfl, ?_⟩))
    go_ret
    exact ⟨by first | rfl | (simp; done) | (simp [*]; done), dX⟩
end Go.Proofs.Yteamagejhbkhnaa.P
namespace Go.Proofs.Yteamagejhbkhnaa.P
open Go.Proofs.YteamagejhbkhnaaZ Go.RowKit Go.Proofs.YteamagejhbkhnaaW.PrintWords Go.Proofs.YteamagejhbkhnaaW.PrintLast Go.Proofs.YteamagejhbkhnaaW.PrintMore
attribute [local go_sem] max2_int min2_int max_two min_two max_three min_three max_four min_four   -- for this text's walks alone
set_option linter.unusedVariables false
set_option linter.unusedSimpArgs false
mutual
def spec_WordsOf.l0 : Nat → List Int → Int → List Int → Int → Option (List Int)
  | 0, _, _, _, _ => none
  | k + 1, x3, x4, x102000, x102001 => if x4 < 4 then (if 0 ≤ x4 then (if x4 < (x102000.length : Int) then ((spec_RowAt.f x4).bind fun t110 => (if 0 ≤ t110 then (if t110 < (x3.length : Int) then ((some (x3.set (t110 : Int).toNat (rd x102000 x4) : List Int)).bind fun y111 => (if (rd x102000 x4) = 0 then (spec_WordsOf.l0 k y111 (wrap64 (x4 + 1)) x102000 x102001) else ((spec_OwnerAt.f (rd x102000 x4)).bind fun t112 => (if 0 ≤ t112 then (if t112 < (x3.length : Int) then ((some (y111.set (t112 : Int).toNat (wrap64 (x4 + 1)) : List Int)).bind fun y113 => (if x4 < (wrap64 (x102001 - 1)) then ((spec_ViaAt.f (rd x102000 x4)).bind fun t114 => (if 0 ≤ t114 then (if t114 < (x3.length : Int) then (spec_WordsOf.l0 k (y113.set (t114 : Int).toNat (wrap64 (x4 + 1))) (wrap64 (x4 + 1)) x102000 x102001) else (none)) else (none))) else (spec_WordsOf.l0 k y113 (wrap64 (x4 + 1)) x102000 x102001))) else (none)) else (none))))) else (none)) else (none))) else (none)) else (none)) else (spec_WordsOf.l1 k x3 0 x102000 x102001)
def spec_WordsOf.l1 : Nat → List Int → Int → List Int → Int → Option (List Int)
  | 0, _, _, _, _ => none
  | k + 1, x3, x6, x102000, x102001 => if x6 < 3 then ((spec_CountAt.f x6).bind fun t116 => ((spec_HowMany.f k x102000 x102001 x6).bind fun t117 => (if 0 ≤ t116 then (if t116 < (x3.length : Int) then (spec_WordsOf.l1 k (x3.set (t116 : Int).toNat t117) (wrap64 (x6 + 1)) x102000 x102001) else (none)) else (none)))) else ((spec_StateAt.f).bind fun t119 => (if 0 ≤ t119 then (if t119 < (x3.length : Int) then (some (x3.set (t119 : Int).toNat x102001)) else (none)) else (none)))
end
def spec_WordsOf.f (k : Nat) (l0_0 : List Int) (a0_1 : Int) : Option (List Int) := (spec_RowsOk.f k l0_0 a0_1).bind fun t102 => (if t102 = true then (if 20 ≤ 35184372088832 then (spec_WordsOf.l0 k (List.replicate 20 0) 0 l0_0 a0_1) else (none)) else (some (([] : List Int))))
def spec_WordsOf.T16 : Bool × List (List Nat × List Nat) := (true, [([], []), ([], []), ([1], [1]), ([], []), ([], []), ([3, 4, 2], [3, 4]), ([0, 2, 0, 1, 2, 3, 4, 5], [0, 2]), ([6, 5, 5, 0, 1, 2, 3, 4, 5], [5, 6])])
def spec_WordsOf.B16 : List Nat := [0, 0, 2, 0, 0, 30, 63, 127]
theorem spec_WordsOf.tab16 : rtab .any (opsOf Try.f37 16) = spec_WordsOf.T16 := by kernel_rfl
theorem spec_WordsOf.bits16 : waitsOk spec_WordsOf.T16.2 spec_WordsOf.B16 = true := by kernel_rfl
set_option maxHeartbeats 8000000 in
set_option maxRecDepth 100000 in
theorem spec_WordsOf.calls (k : Nat) (A0_0 : Option Addr) (c0_0 : Nat) (l0_0 : List Int) (a0_1 : Int) (r : List Int) (w : World) (hr0_0 : Kd.C (Kd.int .i64) w A0_0 l0_0.length l0_0) (hc0_0 : l0_0.length ≤ c0_0) (h : spec_WordsOf.f k l0_0 a0_1 = some r) :
    Calls Try.prog 37 #[.agg #[.slice A0_0 l0_0.length c0_0, .int .i64 a0_1]] w fun e w' => ∃ v0_ : Value, e = .returned (v0_) ∧ Kd.R (Kd.int .i64) 3 w' w.heap.size (fun _ => True) v0_ r ∧ Below w.heap.size w w' := by
  have hu24 := Try.underlying24
  have HR0_0 := Aside0.mk hr0_0
  have HC0_0 := Aside0.mk hc0_0
  clear hr0_0 hc0_0
  have HB := Aside0.mk (Below.refl w.heap.size w)
  have H := h
  unfold spec_WordsOf.f at H
  clear h
  replace H := bE H; obtain ⟨t102, A2, H⟩ := H
  go_enter Try.func37, Try.ntmps37
  go_wp2_with (first | (refine boxE 1 #[.slice A0_0 l0_0.length c0_0, .int .i64 a0_1] 24 ?_; intro gbz1 hg wz1 hbox hb; have BKz1 := Aside0.mk (hbox); have GWz1 := Aside0.mk (gX' hg (hX HB.out)); have GEz1 := Aside0.mk (gX' hg (hX HB.out)); replace HB := Aside0.mk (below_step (hX HB.out) hb); clear hb hbox hg; obtain ⟨hczz1, hczz2, hfzz1, hfzz2⟩ := cZ2 BKz1.out; refine Stop.out ?_))
  refine ⟨?_⟩
  by_cases c3 : t102 = true
  · subst c3
    rw [if_pos rfl] at H
    replace H := ifP H; obtain ⟨c4, H⟩ := H
    have c4b0 := eq_true c4
    have c4b1 := decide_eq_true c4
    clear c4
    obtain ⟨y106, hy106⟩ : ∃ y_ : List Int, y_ = (List.replicate 20 0) := ⟨_, rfl⟩
    replace H : (spec_WordsOf.l0 k y106 0 l0_0 a0_1) = some r := yH H hy106
    have Ny106 := Aside0.mk hy106
    clear hy106
    have H' := Aside0.mk H
    clear H
    go_wp2_with (first | (refine goesM 39 8 Try.func39 #[.agg #[.slice A0_0 l0_0.length c0_0, .int .i64 a0_1]] ?_; refine (spec_RowsOk.calls k _ _ l0_0 a0_1 true _ (cC HR0_0.out HB.out) HC0_0.out A2.out).mono ?_; rintro e wz2 ⟨rfl, hb⟩; refine ⟨_, rfl, ?_⟩; replace BKz1 := Aside0.mk (blk_below (bX BKz1.out) hb); replace HB := Aside0.mk (below_step (hX HB.out) hb); clear hb) | ((with_reducible refine gate_dst (N := 11) rfl ?_); refine Kd.R_make (Kd.int .i64) _ 3 rfl (N := 11) rfl 22 _ _ rfl 20 rfl rfl Try.underlying22 (.int .i64 0) 8 info3 rfl (by decide) (by omega) 0 (ok := fun _ => True) (okp := fun _ => True) rfl (fun _ hk => hk) trivial (by omega) (by omega) (Below.refl _ _) (Nat.le_refl _) ?_; intro vz1 wz3 hoz1 hb hg_ hnew_; clear hg_ hnew_; (first | rw [← Ny106.out] at hoz1 | (simp only [Int.reduceToNat] at hoz1; rw [← Ny106.out] at hoz1)); have HOz1 := Aside0.mk (Kd.R_lower hoz1 (below_size (hX HB.out))); replace BKz1 := Aside0.mk (blk_below (bX BKz1.out) hb); replace HB := Aside0.mk (below_step (hX HB.out) hb); clear hb hoz1))
    go_loopg [4] k (fun kq v4 w' => ∃ (x3_1 : List Int) (x4_1 : Int), v4 = .int .i64 x4_1 ∧ Aside0 (spec_WordsOf.l0 kq x3_1 x4_1 l0_0 a0_1 = some r) ∧ Aside0 (kq ≤ k) ∧ Aside0 (Kd.R (Kd.int .i64) 3 w' w.heap.size (fun _ => True) vz1 x3_1) ∧ Aside0 (w'.heap[gbz1]? = some (.cells #[(.slice A0_0 l0_0.length c0_0), .int .i64 a0_1] 24 (0, 0))) ∧ Aside0 (Below w.heap.size w w'))
    case atStart => exact ⟨(y106), (0), rS, H', ⟨Nat.le_refl _⟩, ⟨(rX HOz1.out)⟩, ⟨(bX BKz1.out)⟩, ⟨(hX HB.out)⟩⟩
    case round =>
      clear H'
      try clear p2
      try clear c3
      try clear c4
      try clear c4b0
      try clear c4b1
      try clear hczz1
      try clear hczz2
      try clear hfzz1
      try clear hfzz2
      obtain ⟨x3_1, x4_1, rfl, HA, HKy1, HO_y1, BKz1, HB⟩ := hrel
      cases gk with
      | zero => exact absurd HA.out (by simp [spec_WordsOf.l0])
      | succ k1 =>
        have H := HA.out
        clear HA
        simp only [spec_WordsOf.l0] at H
        by_cases c10 : x4_1 < 4
        · rw [if_pos c10] at H
          have c10b0 := decide_eq_true c10
          clear c10
          replace H := ifP H; obtain ⟨c11, H⟩ := H
          have c11b0 := decide_eq_true c11
          clear c11
          replace H := ifP H; obtain ⟨c12, H⟩ := H
          have c12b0 := decide_eq_true c12
          clear c12
          replace H := bE H; obtain ⟨t110, A13, H⟩ := H
          replace H := ifP H; obtain ⟨c14, H⟩ := H
          have c14b0 := decide_eq_true c14
          clear c14
          replace H := ifP H; obtain ⟨c15, H⟩ := H
          have c15b0 := decide_eq_true c15
          clear c15
          replace H := sE H; obtain ⟨y111, Ny111, H⟩ := H
          obtain ⟨hczx1, hczx2, hfzx1, hfzx2⟩ := cZ2 BKz1.out
          have px1 : 0 ≤ (x4_1 : Int) := of_decide_eq_true (by first | (with_reducible assumption) | assumption)
          have qx1 : x4_1 < (l0_0.length : Int) := of_decide_eq_true (by first | (with_reducible assumption) | assumption)
          obtain ⟨adx1, ex1, hxx1⟩ := Kd.at_int HR0_0.out x4_1 px1 qx1
          cases ex1
          replace hxx1 := (HB.out.cell (World.block_lt_of_cell? w _ hxx1)).trans hxx1
          replace px1 := eq_true px1
          replace qx1 := eq_true qx1
          go_wp2_with (first | (refine goesM 89 23 Try.func89 #[.int .i64 x4_1] ?_; refine (spec_RowAt.calls x4_1 t110 _ A13.out).mono ?_; rintro e w' ⟨rfl, ⟨nd, rfl⟩⟩; refine ⟨_, rfl, ?_⟩; (try (rw [drewN_self wr]; generalize hq_ : World.drewN wr _ = wr; have nx1 : Aside0 (Kd.R (Kd.int .i64) 3 wr w.heap.size (fun _ => True) vz1 x3_1) := ⟨by rw [← hq_]; exact (rX HO_y1.out)⟩; have nx2 : Aside0 (wr.heap[gbz1]? = some (.cells #[.slice (some adx1) l0_0.length c0_0, .int .i64 a0_1] 24 (0, 0))) := ⟨by rw [← hq_]; exact (bX BKz1.out)⟩; have nx3 : Aside0 (Below w.heap.size w wr) := ⟨by rw [← hq_]; exact (hX HB.out)⟩; clear HO_y1 BKz1 HB hq_; have HO_y1 := nx1; have BKz1 := nx2; have HB := nx3; clear nx1 nx2 nx3)); have px2 : 0 ≤ (t110 : Int) := of_decide_eq_true (by first | (with_reducible assumption) | assumption); have qx2 : (t110 : Int) < ((x3_1.length : Int) : Int) := of_decide_eq_true (by first | (with_reducible assumption) | assumption); obtain ⟨gox1, cox1, eox1, gbx1, glx1, clx1, HGx1⟩ := Kd.R_form HO_y1.out (by omega); (first | cases eox1 | (injection eox1 with ea_ en_ ec_; (first | subst ea_ | (injection ea_ with ea_; subst ea_)); subst ec_; clear en_)); have GBx1 := Aside0.mk gbx1; have GGx1 := Aside0.mk HGx1; clear gbx1 glx1 HGx1; obtain ⟨hxx2, hfx1⟩ := Kd.R_celln 0 HO_y1.out (t110 : Int) px2 qx2; replace px2 := eq_true px2; replace qx2 := eq_true qx2; obtain ⟨hyx1, hzx1⟩ := Kd.R_celln 0 HO_y1.out (t110 : Int) (of_decide_eq_true (by first | (with_reducible assumption) | assumption)) (of_decide_eq_true (by first | (with_reducible assumption) | assumption)); have HPx1 := Kd.R_putg HO_y1.out (t110 : Int) (rd l0_0 x4_1)) | ((with_reducible refine gate_store (t := 3) (p := 25) rfl ?_); refine store_event (t := 3) (p := 25) (v := ?vo_wx1) (w1 := (wr.setCell ⟨gox1, (t110 : Int).toNat, none⟩ (.int .i64 (rd l0_0 x4_1)))) ?hg ?ho ?hn ?hr ?_; (case ho => rfl); (case hg => rfl); (case hn => rfl); (case hr => first | (go_simp; done) | (go_simp; rfl)); intro wx1 hw; have hg : wr.grownBy wx1 (some gox1) := (by rw [hw]; exact HPx1.2); have hp_ : Kd.R (Kd.int .i64) 3 wx1 w.heap.size (fun _ => True) (.slice (some ⟨gox1, 0, none⟩) x3_1.length cox1) y111 := (by rw [hw, Ny111.out]; exact HPx1.1); clear HPx1; replace BKz1 := Aside0.mk (blk_grown (g := gbz1) (o := .cells #[.slice (some adx1) l0_0.length c0_0, .int .i64 a0_1] 24 (0, 0)) (bX BKz1.out) hg (Kd.R_ne HO_y1.out BKz1.out (by decide))); replace HO_y1 := Aside0.mk (hp_); replace HB := Aside0.mk ((by rw [hw]; exact below_set (HB.out) GBx1.out : Below w.heap.size w wx1)); clear hg hw hp_; refine Stop.out ?_))
          refine ⟨?_⟩
          by_cases c17 : (rd l0_0 x4_1) = 0
          · rw [if_pos c17] at H
            obtain ⟨c17b0, c17b1⟩ := eqT c17
            clear c17
            have H' := Aside0.mk H
            clear H
            go_wp2
            go_roundg k1
            case measure => have := HKy1.out; omega
            case rel => exact ⟨(y111), (wrap64 (x4_1 + 1)), rS, H', ⟨by have := HKy1.out; omega⟩, ⟨(rX HO_y1.out)⟩, ⟨(bX BKz1.out)⟩, ⟨(hX HB.out)⟩⟩
          · rw [if_neg c17] at H
            obtain ⟨c17b0, c17b1⟩ := eqF c17
            replace H := bE H; obtain ⟨t112, A21, H⟩ := H
            replace H := ifP H; obtain ⟨c22, H⟩ := H
            have c22b0 := decide_eq_true c22
            clear c22
            replace H := ifP H; obtain ⟨c23, H⟩ := H
            have c23b0 := decide_eq_true c23
            clear c23
            replace H := sE H; obtain ⟨y113, Ny113, H⟩ := H
            go_wp2_with (first | (refine goesM 80 30 Try.func80 #[.int .i64 (rd l0_0 x4_1)] ?_; refine (spec_OwnerAt.calls (rd l0_0 x4_1) t112 _ A21.out).mono ?_; rintro e w' ⟨rfl, ⟨nd, rfl⟩⟩; refine ⟨_, rfl, ?_⟩; (try (rw [drewN_self wx1]; generalize hq_ : World.drewN wx1 _ = wx1; have nx1 : Aside0 (Kd.R (Kd.int .i64) 3 wx1 w.heap.size (fun _ => True) (.slice (some ⟨gox1, 0, none⟩) x3_1.length cox1) y111) := ⟨by rw [← hq_]; exact (rX HO_y1.out)⟩; have nx2 : Aside0 (wx1.heap[gbz1]? = some (.cells #[.slice (some adx1) l0_0.length c0_0, .int .i64 a0_1] 24 (0, 0))) := ⟨by rw [← hq_]; exact (bX BKz1.out)⟩; have nx3 : Aside0 (Below w.heap.size w wx1) := ⟨by rw [← hq_]; exact (hX HB.out)⟩; clear HO_y1 BKz1 HB hq_; have HO_y1 := nx1; have BKz1 := nx2; have HB := nx3; clear nx1 nx2 nx3)); have px3 : 0 ≤ (t112 : Int) := of_decide_eq_true (by first | (with_reducible assumption) | assumption); have qx3 : (t112 : Int) < ((x3_1.length : Int) : Int) := of_decide_eq_true (by first | (with_reducible assumption) | assumption); obtain ⟨hxx3, hfx2⟩ := Kd.R_celln 0 HO_y1.out (t112 : Int) px3 qx3; replace px3 := eq_true px3; replace qx3 := eq_true qx3; obtain ⟨hyx2, hzx2⟩ := Kd.R_celln 0 HO_y1.out (t112 : Int) (of_decide_eq_true (by first | (with_reducible assumption) | assumption)) (of_decide_eq_true (by first | (with_reducible assumption) | assumption)); have HPx2 := Kd.R_putg HO_y1.out (t112 : Int) (wrap64 (x4_1 + 1))) | ((with_reducible refine gate_store (t := 3) (p := 33) rfl ?_); refine store_event (t := 3) (p := 33) (v := ?vo_wx2) (w1 := (wx1.setCell ⟨gox1, (t112 : Int).toNat, none⟩ (.int .i64 (wrap64 (x4_1 + 1))))) ?hg ?ho ?hn ?hr ?_; (case ho => rfl); (case hg => rfl); (case hn => rfl); (case hr => first | (go_simp; done) | (go_simp; rfl)); intro wx2 hw; have hg : wx1.grownBy wx2 (some gox1) := (by rw [hw]; exact HPx2.2); have hp_ : Kd.R (Kd.int .i64) 3 wx2 w.heap.size (fun _ => True) (.slice (some ⟨gox1, 0, none⟩) x3_1.length cox1) y113 := (by rw [hw, Ny113.out]; exact HPx2.1); clear HPx2; replace BKz1 := Aside0.mk (blk_grown (g := gbz1) (o := .cells #[.slice (some adx1) l0_0.length c0_0, .int .i64 a0_1] 24 (0, 0)) (bX BKz1.out) hg (Kd.R_ne HO_y1.out BKz1.out (by decide))); replace HO_y1 := Aside0.mk (hp_); replace HB := Aside0.mk ((by rw [hw]; exact below_set (HB.out) GBx1.out : Below w.heap.size w wx2)); clear hg hw hp_; obtain ⟨hczx3, hczx4, hfzx3, hfzx4⟩ := cZ2 BKz1.out; refine Stop.out ?_))
            refine ⟨?_⟩
            by_cases c25 : x4_1 < (wrap64 (a0_1 - 1))
            · rw [if_pos c25] at H
              have c25b0 := decide_eq_true c25
              clear c25
              replace H := bE H; obtain ⟨t114, A26, H⟩ := H
              replace H := ifP H; obtain ⟨c27, H⟩ := H
              have c27b0 := decide_eq_true c27
              clear c27
              replace H := ifP H; obtain ⟨c28, H⟩ := H
              have c28b0 := decide_eq_true c28
              clear c28
              obtain ⟨y115, hy115⟩ : ∃ y_ : List Int, y_ = (y113.set (t114 : Int).toNat (wrap64 (x4_1 + 1))) := ⟨_, rfl⟩
              replace H : (spec_WordsOf.l0 k1 y115 (wrap64 (x4_1 + 1)) l0_0 a0_1) = some r := yH H hy115
              have Ny115 := Aside0.mk hy115
              clear hy115
              have H' := Aside0.mk H
              clear H
              go_wp2_with (first | (refine goesM 82 41 Try.func82 #[.int .i64 (rd l0_0 x4_1)] ?_; refine (spec_ViaAt.calls (rd l0_0 x4_1) t114 _ A26.out).mono ?_; rintro e w' ⟨rfl, ⟨nd, rfl⟩⟩; refine ⟨_, rfl, ?_⟩; (try (rw [drewN_self wx2]; generalize hq_ : World.drewN wx2 _ = wx2; have nx1 : Aside0 (Kd.R (Kd.int .i64) 3 wx2 w.heap.size (fun _ => True) (.slice (some ⟨gox1, 0, none⟩) x3_1.length cox1) y113) := ⟨by rw [← hq_]; exact (rX HO_y1.out)⟩; have nx2 : Aside0 (wx2.heap[gbz1]? = some (.cells #[.slice (some adx1) l0_0.length c0_0, .int .i64 a0_1] 24 (0, 0))) := ⟨by rw [← hq_]; exact (bX BKz1.out)⟩; have nx3 : Aside0 (Below w.heap.size w wx2) := ⟨by rw [← hq_]; exact (hX HB.out)⟩; clear HO_y1 BKz1 HB hq_; have HO_y1 := nx1; have BKz1 := nx2; have HB := nx3; clear nx1 nx2 nx3)); have px4 : 0 ≤ (t114 : Int) := of_decide_eq_true (by first | (with_reducible assumption) | assumption); have qx4 : (t114 : Int) < ((x3_1.length : Int) : Int) := of_decide_eq_true (by first | (with_reducible assumption) | assumption); obtain ⟨hxx4, hfx3⟩ := Kd.R_celln 0 HO_y1.out (t114 : Int) px4 qx4; replace px4 := eq_true px4; replace qx4 := eq_true qx4; obtain ⟨hyx3, hzx3⟩ := Kd.R_celln 0 HO_y1.out (t114 : Int) (of_decide_eq_true (by first | (with_reducible assumption) | assumption)) (of_decide_eq_true (by first | (with_reducible assumption) | assumption)); have HPx3 := Kd.R_putg HO_y1.out (t114 : Int) (wrap64 (x4_1 + 1))) | ((with_reducible refine gate_store (t := 3) (p := 44) rfl ?_); refine store_event (t := 3) (p := 44) (v := ?vo_wx3) (w1 := (wx2.setCell ⟨gox1, (t114 : Int).toNat, none⟩ (.int .i64 (wrap64 (x4_1 + 1))))) ?hg ?ho ?hn ?hr ?_; (case ho => rfl); (case hg => rfl); (case hn => rfl); (case hr => first | (go_simp; done) | (go_simp; rfl)); intro wx3 hw; have hg : wx2.grownBy wx3 (some gox1) := (by rw [hw]; exact HPx3.2); have hp_ : Kd.R (Kd.int .i64) 3 wx3 w.heap.size (fun _ => True) (.slice (some ⟨gox1, 0, none⟩) x3_1.length cox1) y115 := (by rw [hw, Ny115.out]; exact HPx3.1); clear HPx3; replace BKz1 := Aside0.mk (blk_grown (g := gbz1) (o := .cells #[.slice (some adx1) l0_0.length c0_0, .int .i64 a0_1] 24 (0, 0)) (bX BKz1.out) hg (Kd.R_ne HO_y1.out BKz1.out (by decide))); replace HO_y1 := Aside0.mk (hp_); replace HB := Aside0.mk ((by rw [hw]; exact below_set (HB.out) GBx1.out : Below w.heap.size w wx3)); clear hg hw hp_))
              go_roundg k1
              case measure => have := HKy1.out; omega
              case rel => exact ⟨(y115), (wrap64 (x4_1 + 1)), rS, H', ⟨by have := HKy1.out; omega⟩, ⟨(rX HO_y1.out)⟩, ⟨(bX BKz1.out)⟩, ⟨(hX HB.out)⟩⟩
            · rw [if_neg c25] at H
              have c25b0 := decide_eq_false c25
              clear c25
              have H' := Aside0.mk H
              clear H
              go_wp2
              go_roundg k1
              case measure => have := HKy1.out; omega
              case rel => exact ⟨(y113), (wrap64 (x4_1 + 1)), rS, H', ⟨by have := HKy1.out; omega⟩, ⟨(rX HO_y1.out)⟩, ⟨(bX BKz1.out)⟩, ⟨(hX HB.out)⟩⟩
        · rw [if_neg c10] at H
          have c10b0 := decide_eq_false c10
          clear c10
          have H' := Aside0.mk H
          clear H
          go_wp2
          go_loopg [6] k1 (fun kq v6 w' => ∃ (x3_2 : List Int) (x6_2 : Int), v6 = .int .i64 x6_2 ∧ Aside0 (spec_WordsOf.l1 kq x3_2 x6_2 l0_0 a0_1 = some r) ∧ Aside0 (kq ≤ k1) ∧ Aside0 (Kd.R (Kd.int .i64) 3 w' w.heap.size (fun _ => True) vz1 x3_2) ∧ Aside0 (w'.heap[gbz1]? = some (.cells #[(.slice A0_0 l0_0.length c0_0), .int .i64 a0_1] 24 (0, 0))) ∧ Aside0 (Below w.heap.size w w'))
          case atStart => exact ⟨(x3_1), (0), rS, H', ⟨Nat.le_refl _⟩, ⟨(rX HO_y1.out)⟩, ⟨(bX BKz1.out)⟩, ⟨(hX HB.out)⟩⟩
          case round =>
            clear H'
            try clear c1
            try clear p1
            try clear q1
            try clear hx1
            try clear hf1
            try clear c2
            try clear p2
            try clear q2
            try clear hx2
            try clear hf2
            try clear c3
            try clear c4
            try clear c4b0
            try clear c4b1
            try clear p6
            try clear c8
            try clear c10
            try clear c10b0
            try clear p10
            try clear q10
            try clear hx10
            try clear c11
            try clear c11b0
            try clear c12
            try clear c12b0
            try clear c14
            try clear c14b0
            try clear c15
            try clear c15b0
            try clear p16
            try clear q16
            try clear hx16
            try clear hf16
            try clear c17
            try clear c17b0
            try clear c17b1
            try clear c22
            try clear c22b0
            try clear c23
            try clear c23b0
            try clear p24
            try clear q24
            try clear hx24
            try clear hf24
            try clear c25
            try clear c25b0
            try clear c27
            try clear c27b0
            try clear c28
            try clear c28b0
            try clear p29
            try clear q29
            try clear hx29
            try clear hf29
            try clear c37
            try clear c39
            try clear hcz18_0
            try clear hcz18_1
            try clear hcz30_0
            try clear hcz30_1
            try clear hcz35_0
            try clear hcz35_1
            try clear hcz38_0
            try clear hcz38_1
            try clear hcz43_0
            try clear hcz43_1
            try clear hczz1
            try clear hczz2
            try clear hfz18_0
            try clear hfz18_1
            try clear hfz30_0
            try clear hfz30_1
            try clear hfz35_0
            try clear hfz35_1
            try clear hfz38_0
            try clear hfz38_1
            try clear hfz43_0
            try clear hfz43_1
            try clear hfzz1
            try clear hfzz2
            try clear hx109_0
            try clear hx16_0
            try clear hx24_0
            try clear hx29_0
            try clear p109
            try clear p16
            try clear p2
            try clear p24
            try clear p29
            try clear q109
            try clear q16
            try clear q24
            try clear q29
            obtain ⟨x3_2, x6_2, rfl, HA, HKw1, HO_y1, BKz1, HB⟩ := hrel
            cases gk with
            | zero => exact absurd HA.out (by simp [spec_WordsOf.l1])
            | succ k2 =>
              have H := HA.out
              clear HA
              simp only [spec_WordsOf.l1] at H
              by_cases c44 : x6_2 < 3
              · rw [if_pos c44] at H
                have c44b0 := decide_eq_true c44
                clear c44
                replace H := bE H; obtain ⟨t116, A45, H⟩ := H
                replace H := bE H; obtain ⟨t117, A46, H⟩ := H
                replace H := ifP H; obtain ⟨c47, H⟩ := H
                have c47b0 := decide_eq_true c47
                clear c47
                replace H := ifP H; obtain ⟨c48, H⟩ := H
                have c48b0 := decide_eq_true c48
                clear c48
                obtain ⟨y118, hy118⟩ : ∃ y_ : List Int, y_ = (x3_2.set (t116 : Int).toNat t117) := ⟨_, rfl⟩
                replace H : (spec_WordsOf.l1 k2 y118 (wrap64 (x6_2 + 1)) l0_0 a0_1) = some r := yH H hy118
                have Ny118 := Aside0.mk hy118
                clear hy118
                have H' := Aside0.mk H
                clear H
                try go_wp2
                replace HO_y1 := Aside0.mk (Kd.R_drew HO_y1.out)
                replace BKz1 := Aside0.mk (blk_drew BKz1.out)
                replace HB := Aside0.mk (below_drew1 HB.out)
                refine start_ (n := 8) (S := fun w' => w'.cell? ⟨gbz1, 0, none⟩ = some (.slice A0_0 l0_0.length c0_0) ∧ w'.cell? ⟨gbz1, 1, none⟩ = some (.int .i64 a0_1)) (ds := [7]) (bm 8 0) (by kernel_rfl) rfl (by kernel_rfl) ⟨cK BKz1.out 0, cK BKz1.out 1⟩ (fun hHeld => ?_); refine with_tabW spec_WordsOf.tab16 spec_WordsOf.bits16 (fun HT_ HW_ => ?_)
                generalize wr.drew = wv1 at HO_y1 BKz1 HB hHeld ⊢
                refine pZ 0 49 (bm 8 1) HT_.out ?_
                refine pZ 1 50 (bm 8 3) HT_.out ?_
                refine pZ 4 53 (bm 8 19) HT_.out ?_
                refine tZ 3 52 (bm 8 27) HT_.out HW_.out hHeld ?_
                refine oZ 2 (some 51) (bm 8 31) HT_.out (fun K hK => ?_)
                refine goesN Try.func90 #[.int .i64 x6_2] ?_
                with_reducible refine (spec_CountAt.calls x6_2 t116 _ A45.out).mono ?_
                rintro e w' ⟨rfl, ⟨nd, rfl⟩⟩
                refine ⟨_, rfl, ?_⟩
                refine hK.out _ _ ⟨cK BKz1.out 0, cK BKz1.out 1⟩ (fun hHeld => ?_)
                clear hK K
                refine nZ 51 ?_
                refine oZ 5 (some 54) (bm 8 63) HT_.out (fun K hK => ?_)
                refine goesN Try.func43 #[.agg #[.slice A0_0 l0_0.length c0_0, .int .i64 a0_1], .int .i64 x6_2] ?_
                with_reducible refine (spec_HowMany.calls k2 _ _ l0_0 a0_1 x6_2 t117 _ ?side1 ?side2 A46.out).mono ?_
                (case side1 => repeat (first | exact (Kd.C_below HR0_0.out (hX HB.out)) | (with_reducible refine Kd.C_alloc ?_ _) | (with_reducible refine Kd.C_drewN ?_ _) | (with_reducible refine Kd.C_drew ?_)))
                (case side2 => exact HC0_0.out)
                rintro e wv2 ⟨rfl, hb⟩
                refine ⟨_, rfl, ?_⟩
                replace HO_y1 := Aside0.mk (Kd.R_below (rX HO_y1.out) hb)
                replace BKz1 := Aside0.mk (blk_below (bX BKz1.out) hb)
                replace HB := Aside0.mk (below_step (hX HB.out) hb)
                (try clear hb)
                (try clear hb2)
                (try clear hk)
                (try clear hi)
                have pv1 : 0 ≤ (t116 : Int) := of_decide_eq_true (by first | (with_reducible assumption) | assumption)
                have qv1 : (t116 : Int) < ((x3_2.length : Int) : Int) := of_decide_eq_true (by first | (with_reducible assumption) | assumption)
                obtain ⟨gov1, cov1, eov1, gbv1, glv1, clv1, HGv1⟩ := Kd.R_form HO_y1.out (by omega)
                (first | cases eov1 | (injection eov1 with ea_ en_ ec_; (first | subst ea_ | (injection ea_ with ea_; subst ea_)); subst ec_; clear en_))
                have GBv1 := Aside0.mk gbv1
                have GGv1 := Aside0.mk HGv1
                clear gbv1 glv1 HGv1
                obtain ⟨hxv1, hfv1⟩ := Kd.R_celln 0 HO_y1.out (t116 : Int) pv1 qv1
                replace pv1 := eq_true pv1
                replace qv1 := eq_true qv1
                have HPv1 := Kd.R_putn HO_y1.out (t116 : Int) t117
                rw [← Ny118.out] at HPv1
                have HQv1 := Aside0.mk HPv1
                clear HPv1
                refine hK.out _ _ ⟨cK BKz1.out 0, cK BKz1.out 1⟩ (fun hHeld => ?_)
                clear hK K
                refine nZ 54 ?_
                refine pZ 6 55 (bm 8 127) HT_.out ?_
                refine last_ (i := 7) (N := none) #[true, true, true, true, true, true, true, true] rfl rfl (one_of HT_.out (by kernel_rfl)) (by decide) (fun K hK => ?_)
                refine skip_ (w1 := ?_) (by rfl) rfl ?_ ?_
                rotate_left
                · go_simp
                  rfl
                refine hK.out _ _ ?_
                clear hK K
                refine done_ (done_of HT_.out (by kernel_rfl)) ?_
                try go_wp2
                go_roundg k2
                case measure => have := HKy1.out; have := HKw1.out; omega
                case rel => exact ⟨(y118), (wrap64 (x6_2 + 1)), rS, H', ⟨by have := HKy1.out; have := HKw1.out; omega⟩, ⟨(rX HQv1.out)⟩, ⟨by (with_reducible repeat (first | refine blk_drewN ?_ _ | refine blk_drew ?_ | refine blk_alloc ?_ _)); refine blk_far ?_ (by have h_ := Kd.R_ne HO_y1.out BKz1.out (by decide); intro e_; exact h_ (by rw [e_]; rfl)) _; (with_reducible repeat (first | refine blk_drewN ?_ _ | refine blk_drew ?_ | refine blk_alloc ?_ _)); exact BKz1.out⟩, ⟨(hX HB.out)⟩⟩
              · rw [if_neg c44] at H
                have c44b0 := decide_eq_false c44
                clear c44
                replace H := bE H; obtain ⟨t119, A53, H⟩ := H
                replace H := ifP H; obtain ⟨c54, H⟩ := H
                have c54b0 := decide_eq_true c54
                clear c54
                replace H := ifP H; obtain ⟨c55, H⟩ := H
                have c55b0 := decide_eq_true c55
                clear c55
                obtain ⟨y120, hy120⟩ : ∃ y_ : List Int, y_ = (x3_2.set (t119 : Int).toNat a0_1) := ⟨_, rfl⟩
                replace H : (some y120) = some r := yH H hy120
                have Ny120 := Aside0.mk hy120
                clear hy120
                obtain rfl := Option.some.inj H
                try go_wp2
                replace HO_y1 := Aside0.mk (Kd.R_drew HO_y1.out)
                replace BKz1 := Aside0.mk (blk_drew BKz1.out)
                replace HB := Aside0.mk (below_drew1 HB.out)
                refine start_ (n := 6) (S := fun w' => w'.cell? ⟨gbz1, 0, none⟩ = some (.slice A0_0 l0_0.length c0_0) ∧ w'.cell? ⟨gbz1, 1, none⟩ = some (.int .i64 a0_1)) (ds := [5]) (bm 6 0) (by kernel_rfl) rfl (by kernel_rfl) ⟨cK BKz1.out 0, cK BKz1.out 1⟩ (fun hHeld => ?_)
                generalize wr.drew = wv1 at HO_y1 BKz1 HB hHeld ⊢
                refine pK 0 56 (bm 6 1) ?_
                refine pK 2 58 (bm 6 5) ?_
                refine tK 3 59 (bm 6 13) hHeld ?_
                refine oK 1 (some 57) (bm 6 15) (fun K hK => ?_)
                refine goesN Try.func74 #[] ?_
                with_reducible refine (spec_StateAt.calls  t119 _ A53.out).mono ?_
                rintro e w' ⟨rfl, ⟨nd, rfl⟩⟩
                refine ⟨_, rfl, ?_⟩
                have pv1 : 0 ≤ (t119 : Int) := of_decide_eq_true (by first | (with_reducible assumption) | assumption)
                have qv1 : (t119 : Int) < ((x3_2.length : Int) : Int) := of_decide_eq_true (by first | (with_reducible assumption) | assumption)
                obtain ⟨gov1, cov1, eov1, gbv1, glv1, clv1, HGv1⟩ := Kd.R_form HO_y1.out (by omega)
                (first | cases eov1 | (injection eov1 with ea_ en_ ec_; (first | subst ea_ | (injection ea_ with ea_; subst ea_)); subst ec_; clear en_))
                have GBv1 := Aside0.mk gbv1
                have GGv1 := Aside0.mk HGv1
                clear gbv1 glv1 HGv1
                obtain ⟨hxv1, hfv1⟩ := Kd.R_celln 0 HO_y1.out (t119 : Int) pv1 qv1
                replace pv1 := eq_true pv1
                replace qv1 := eq_true qv1
                have HPv1 := Kd.R_putn HO_y1.out (t119 : Int) a0_1
                rw [← Ny120.out] at HPv1
                have HQv1 := Aside0.mk HPv1
                clear HPv1
                refine hK.out _ _ ⟨cK BKz1.out 0, cK BKz1.out 1⟩ (fun hHeld => ?_)
                clear hK K
                refine nZ 57 ?_
                refine pK 4 60 (bm 6 31) ?_
                refine last_ (i := 5) (N := none) #[true, true, true, true, true, true] rfl rfl (by kernel_rfl) (by decide) (fun K hK => ?_)
                refine skip_ (w1 := ?_) (by rfl) rfl ?_ ?_
                rotate_left
                · go_simp
                  rfl
                refine hK.out _ _ ?_
                clear hK K
                refine done_ (by kernel_rfl) ?_
                try go_wp2
                go_ret
                exact ⟨_, rE, (rX HQv1.out), (hX HB.out)⟩
  · replace c3 := Bool.eq_false_iff.mpr c3
    subst c3
    rw [if_neg nft] at H
    obtain ⟨y103, hy103⟩ : ∃ y_ : List Int, y_ = (([] : List Int)) := ⟨_, rfl⟩
    replace H : (some y103) = some r := yH H hy103
    have Ny103 := Aside0.mk hy103
    clear hy103
    obtain rfl := Option.some.inj H
    go_wp2_with (first | (refine goesM 39 8 Try.func39 #[.agg #[.slice A0_0 l0_0.length c0_0, .int .i64 a0_1]] ?_; refine (spec_RowsOk.calls k _ _ l0_0 a0_1 false _ (cC HR0_0.out HB.out) HC0_0.out A2.out).mono ?_; rintro e wz2 ⟨rfl, hb⟩; refine ⟨_, rfl, ?_⟩; replace BKz1 := Aside0.mk (blk_below (bX BKz1.out) hb); replace HB := Aside0.mk (below_step (hX HB.out) hb); clear hb) | ((with_reducible refine gate_dst (N := 10) rfl ?_); refine Kd.R_lit (Kd.int .i64) _ 3 ?hg (N := 10) ?hd (xs := ([] : List Int)) (inner := []) (ok := fun _ => True) (okp := fun _ => True) ?hr ?hp (fun _ hk => hk) trivial (Below.refl _ _) (Nat.le_refl _) (by simp) ?_; (case hd => rfl); (case hg => rfl); (case hr => first | (go_simp; done) | (go_simp; rfl)); (case hp => exact (Reps.none _ _)); intro vz1 wz3 hoz1 hb hg_ hnew_; clear hg_ hnew_; (first | rw [← Ny103.out] at hoz1 | (simp only [Int.reduceToNat] at hoz1; rw [← Ny103.out] at hoz1)); have HOz1 := Aside0.mk (Kd.R_lower hoz1 (below_size (hX HB.out))); replace BKz1 := Aside0.mk (blk_below (bX BKz1.out) hb); replace HB := Aside0.mk (below_step (hX HB.out) hb); clear hb hoz1))
    go_ret
    exact ⟨_, rE, (rX HOz1.out), (hX HB.out)⟩
end Go.Proofs.Yteamagejhbkhnaa.P
namespace Go.Proofs.Yteamagejhbkhnaa.P
open Go.Proofs.YteamagejhbkhnaaZ Go.RowKit Go.Proofs.YteamagejhbkhnaaW.PrintWords Go.Proofs.YteamagejhbkhnaaW.PrintLast Go.Proofs.YteamagejhbkhnaaW.PrintMore
attribute [local go_sem] max2_int min2_int max_two min_two max_three min_three max_four min_four   -- for this text's walks alone
set_option linter.unusedVariables false
set_option linter.unusedSimpArgs false
def impl_KeyOf.f (k : Nat) (l0_0 : List Int) (a0_1 : Int) (a1 : Int) : Option (Int) := (slices_Index_int_int.f k l0_0 a1).bind fun t102 => (some t102)
set_option maxHeartbeats 8000000 in
set_option maxRecDepth 100000 in
theorem impl_KeyOf.calls (k : Nat) (A0_0 : Option Addr) (c0_0 : Nat) (l0_0 : List Int) (a0_1 : Int) (a1 : Int) (r : Int) (w : World) (hr0_0 : Kd.C (Kd.int .i64) w A0_0 l0_0.length l0_0) (hc0_0 : l0_0.length ≤ c0_0) (h : impl_KeyOf.f k l0_0 a0_1 a1 = some r) :
    Calls Try.prog 40 #[.agg #[.slice A0_0 l0_0.length c0_0, .int .i64 a0_1], .int .i64 a1] w fun e w' => e = .returned (.int .i64 r) ∧ Below w.heap.size w w' := by
  have hu24 := Try.underlying24
  have HR0_0 := Aside0.mk hr0_0
  have HC0_0 := Aside0.mk hc0_0
  clear hr0_0 hc0_0
  have HB := Aside0.mk (Below.refl w.heap.size w)
  have H := h
  unfold impl_KeyOf.f at H
  clear h
  replace H := bE H; obtain ⟨t102, A3, H⟩ := H
  obtain rfl := Option.some.inj H
  go_enter Try.func40, Try.ntmps40
  go_wp2_with (first | (refine boxE 2 #[.slice A0_0 l0_0.length c0_0, .int .i64 a0_1] 24 ?_; intro gbz1 hg wz1 hbox hb; have BKz1 := Aside0.mk (hbox); have GWz1 := Aside0.mk (gX' hg (hX HB.out)); have GEz1 := Aside0.mk (gX' hg (hX HB.out)); replace HB := Aside0.mk (below_step (hX HB.out) hb); clear hb hbox hg; obtain ⟨hczz1, hczz2, hfzz1, hfzz2⟩ := cZ2 BKz1.out) | (refine goesM 96 8 Try.func96 #[.slice A0_0 l0_0.length c0_0, .int .i64 a1] ?_; refine (slices_Index_int_int.calls k _ _ l0_0 a1 t102 _ (cC HR0_0.out HB.out) HC0_0.out A3.out).mono ?_; rintro e w' ⟨rfl, ⟨nd, rfl⟩⟩; refine ⟨_, rfl, ?_⟩))
  go_ret
  exact ⟨rE, (hX HB.out)⟩
end Go.Proofs.Yteamagejhbkhnaa.P
namespace Go.Proofs.Yteamagejhbkhnaa.P
open Go.Proofs.YteamagejhbkhnaaZ Go.RowKit Go.Proofs.YteamagejhbkhnaaW.PrintWords Go.Proofs.YteamagejhbkhnaaW.PrintLast Go.Proofs.YteamagejhbkhnaaW.PrintMore
attribute [local go_sem] max2_int min2_int max_two min_two max_three min_three max_four min_four   -- for this text's walks alone
set_option linter.unusedVariables false
set_option linter.unusedSimpArgs false
def impl_HowMany.l0 : Nat → Int → Int → List Int → Int → Int → Option (Int)
  | 0, _, _, _, _, _ => none
  | k + 1, x1, x5, x9, x10, x11 => if x11 < x10 then (if 0 ≤ x11 then (if x11 < (x9.length : Int) then ((impl_ValOk.f (rd x9 x11)).bind fun t103 => (if t103 = true then ((impl_ClassOf.f (rd x9 x11)).bind fun t104 => (if t104 = x1 then (impl_HowMany.l0 k x1 (wrap64 (x5 + 1)) x9 x10 (wrap64 (x11 + 1))) else (impl_HowMany.l0 k x1 x5 x9 x10 (wrap64 (x11 + 1))))) else (impl_HowMany.l0 k x1 x5 x9 x10 (wrap64 (x11 + 1))))) else (none)) else (none)) else (some x5)
def impl_HowMany.f (k : Nat) (l0_0 : List Int) (a0_1 : Int) (a1 : Int) : Option (Int) := impl_HowMany.l0 k a1 0 l0_0 (l0_0.length : Int) 0
set_option maxHeartbeats 8000000 in
set_option maxRecDepth 100000 in
theorem impl_HowMany.calls (k : Nat) (A0_0 : Option Addr) (c0_0 : Nat) (l0_0 : List Int) (a0_1 : Int) (a1 : Int) (r : Int) (w : World) (hr0_0 : Kd.C (Kd.int .i64) w A0_0 l0_0.length l0_0) (hc0_0 : l0_0.length ≤ c0_0) (h : impl_HowMany.f k l0_0 a0_1 a1 = some r) :
    Calls Try.prog 42 #[.agg #[.slice A0_0 l0_0.length c0_0, .int .i64 a0_1], .int .i64 a1] w fun e w' => e = .returned (.int .i64 r) ∧ Below w.heap.size w w' := by
  have hu24 := Try.underlying24
  have HR0_0 := Aside0.mk hr0_0
  have HC0_0 := Aside0.mk hc0_0
  clear hr0_0 hc0_0
  have HB := Aside0.mk (Below.refl w.heap.size w)
  have H := h
  unfold impl_HowMany.f at H
  clear h
  have H' := Aside0.mk H
  clear H
  go_enter Try.func42, Try.ntmps42
  go_wp2_with (first | (refine boxE 2 #[.slice A0_0 l0_0.length c0_0, .int .i64 a0_1] 24 ?_; intro gbz1 hg wz1 hbox hb; have BKz1 := Aside0.mk (hbox); have GWz1 := Aside0.mk (gX' hg (hX HB.out)); have GEz1 := Aside0.mk (gX' hg (hX HB.out)); replace HB := Aside0.mk (below_step (hX HB.out) hb); clear hb hbox hg; obtain ⟨hczz1, hczz2, hfzz1, hfzz2⟩ := cZ2 BKz1.out))
  go_loopg [5, 11] k (fun kq v5 v11 w' => ∃ (x5_1 : Int) (x11_1 : Int), v5 = .int .i64 x5_1 ∧ v11 = .int .i64 x11_1 ∧ Aside0 (impl_HowMany.l0 kq a1 x5_1 l0_0 (l0_0.length : Int) x11_1 = some r) ∧ Aside0 (kq ≤ k) ∧ Aside0 (w'.heap[gbz1]? = some (.cells #[(.slice A0_0 l0_0.length c0_0), .int .i64 a0_1] 24 (0, 0))) ∧ Aside0 (Below w.heap.size w w'))
  case atStart => exact ⟨(0), (0), rS, rS, H', ⟨Nat.le_refl _⟩, ⟨(bX BKz1.out)⟩, ⟨(hX HB.out)⟩⟩
  case round =>
    clear H'
    try clear p2
    try clear c4
    try clear hczz1
    try clear hczz2
    try clear hfzz1
    try clear hfzz2
    obtain ⟨x5_1, x11_1, rfl, rfl, HA, HKy1, BKz1, HB⟩ := hrel
    cases gk with
    | zero => exact absurd HA.out (by simp [impl_HowMany.l0])
    | succ k1 =>
      have H := HA.out
      clear HA
      simp only [impl_HowMany.l0] at H
      by_cases c5 : x11_1 < (l0_0.length : Int)
      · rw [if_pos c5] at H
        have c5b0 := decide_eq_true c5
        clear c5
        replace H := ifP H; obtain ⟨c6, H⟩ := H
        have c6b0 := decide_eq_true c6
        clear c6
        replace H := ifP H; obtain ⟨c7, H⟩ := H
        have c7b0 := decide_eq_true c7
        clear c7
        replace H := bE H; obtain ⟨t103, A8, H⟩ := H
        by_cases c9 : t103 = true
        · subst c9
          rw [if_pos rfl] at H
          replace H := bE H; obtain ⟨t104, A10, H⟩ := H
          have px1 : 0 ≤ (x11_1 : Int) := of_decide_eq_true (by first | (with_reducible assumption) | assumption)
          have qx1 : x11_1 < (l0_0.length : Int) := of_decide_eq_true (by first | (with_reducible assumption) | assumption)
          obtain ⟨adx1, ex1, hxx1⟩ := Kd.at_int HR0_0.out x11_1 px1 qx1
          cases ex1
          replace hxx1 := (HB.out.cell (World.block_lt_of_cell? w _ hxx1)).trans hxx1
          replace px1 := eq_true px1
          replace qx1 := eq_true qx1
          go_wp2_with (first | (refine goesM 91 16 Try.func91 #[.int .i64 (rd l0_0 x11_1)] ?_; refine (impl_ValOk.calls (rd l0_0 x11_1) true _ A8.out).mono ?_; rintro e w' ⟨rfl, ⟨nd, rfl⟩⟩; refine ⟨_, rfl, ?_⟩) | (go_at_call 87; (with_reducible refine (impl_ClassOf.calls (rd l0_0 x11_1) t104 _ A10.out).mono ?_); rintro e w' ⟨rfl, ⟨nd, rfl⟩⟩; refine Stop.out ?_))
          refine ⟨?_⟩
          by_cases c11 : t104 = a1
          · rw [if_pos c11] at H
            obtain ⟨c11b0, c11b1⟩ := eqT c11
            clear c11
            have H' := Aside0.mk H
            clear H
            go_wp2
            go_roundg k1
            case measure => have := HKy1.out; omega
            case rel => exact ⟨(wrap64 (x5_1 + 1)), (wrap64 (x11_1 + 1)), rS, rS, H', ⟨by have := HKy1.out; omega⟩, ⟨(bX BKz1.out)⟩, ⟨(hX HB.out)⟩⟩
          · rw [if_neg c11] at H
            obtain ⟨c11b0, c11b1⟩ := eqF c11
            have H' := Aside0.mk H
            clear H
            go_wp2
            go_roundg k1
            case measure => have := HKy1.out; omega
            case rel => exact ⟨(x5_1), (wrap64 (x11_1 + 1)), rS, rS, H', ⟨by have := HKy1.out; omega⟩, ⟨(bX BKz1.out)⟩, ⟨(hX HB.out)⟩⟩
        · replace c9 := Bool.eq_false_iff.mpr c9
          subst c9
          rw [if_neg nft] at H
          have H' := Aside0.mk H
          clear H
          have px1 : 0 ≤ (x11_1 : Int) := of_decide_eq_true (by first | (with_reducible assumption) | assumption)
          have qx1 : x11_1 < (l0_0.length : Int) := of_decide_eq_true (by first | (with_reducible assumption) | assumption)
          obtain ⟨adx1, ex1, hxx1⟩ := Kd.at_int HR0_0.out x11_1 px1 qx1
          cases ex1
          replace hxx1 := (HB.out.cell (World.block_lt_of_cell? w _ hxx1)).trans hxx1
          replace px1 := eq_true px1
          replace qx1 := eq_true qx1
          go_wp2_with (first | (refine goesM 91 16 Try.func91 #[.int .i64 (rd l0_0 x11_1)] ?_; refine (impl_ValOk.calls (rd l0_0 x11_1) false _ A8.out).mono ?_; rintro e w' ⟨rfl, ⟨nd, rfl⟩⟩; refine ⟨_, rfl, ?_⟩))
          go_roundg k1
          case measure => have := HKy1.out; omega
          case rel => exact ⟨(x5_1), (wrap64 (x11_1 + 1)), rS, rS, H', ⟨by have := HKy1.out; omega⟩, ⟨(bX BKz1.out)⟩, ⟨(hX HB.out)⟩⟩
      · rw [if_neg c5] at H
        have c5b0 := decide_eq_false c5
        clear c5
        obtain rfl := Option.some.inj H
        go_wp2
        go_ret
        exact ⟨rE, (hX HB.out)⟩
end Go.Proofs.Yteamagejhbkhnaa.P
namespace Go.Proofs.Yteamagejhbkhnaa.P
open Go.Proofs.YteamagejhbkhnaaZ Go.RowKit Go.Proofs.YteamagejhbkhnaaW.PrintWords Go.Proofs.YteamagejhbkhnaaW.PrintLast Go.Proofs.YteamagejhbkhnaaW.PrintMore
attribute [local go_sem] max2_int min2_int max_two min_two max_three min_three max_four min_four   -- for this text's walks alone
set_option linter.unusedVariables false
set_option linter.unusedSimpArgs false
def impl_RowsNew.f  : Option (List Int × Int) := if 4 ≤ 35184372088832 then (some ((List.replicate 4 0), 0)) else (none)
set_option maxHeartbeats 8000000 in
set_option maxRecDepth 100000 in
theorem impl_RowsNew.calls  (r1 : List Int) (r2 : Int) (w : World) (h : impl_RowsNew.f  = some (r1, r2)) :
    Calls Try.prog 44 #[] w fun e w' => ∃ v0_ : Value, e = .returned (.agg #[v0_, .int .i64 r2]) ∧ Kd.R (Kd.int .i64) 3 w' w.heap.size (fun _ => True) v0_ r1 ∧ Below w.heap.size w w' := by
  have hu24 := Try.underlying24
  have HB := Aside0.mk (Below.refl w.heap.size w)
  have H := h
  unfold impl_RowsNew.f at H
  clear h
  replace H := ifP H; obtain ⟨c1, H⟩ := H
  have c1b0 := eq_true c1
  have c1b1 := decide_eq_true c1
  clear c1
  obtain ⟨y102, hy102⟩ : ∃ y_ : List Int, y_ = (List.replicate 4 0) := ⟨_, rfl⟩
  replace H : (some (y102, 0)) = some (r1, r2) := yH H hy102
  have Ny102 := Aside0.mk hy102
  clear hy102
  simp only [Option.some.injEq, Prod.mk.injEq] at H
  obtain ⟨rfl, rfl⟩ := H
  go_enter Try.func44, Try.ntmps44
  go_wp2_with (first | (refine boxE 0 #[.slice none 0 0, .int .i64 0] 24 ?_; intro gbz1 hg wz1 hbox hb; have BKz1 := Aside0.mk (hbox); have GWz1 := Aside0.mk (gX' hg (hX HB.out)); have GEz1 := Aside0.mk (gX' hg (hX HB.out)); replace HB := Aside0.mk (below_step (hX HB.out) hb); clear hb hbox hg) | ((with_reducible refine gate_dst (N := 1) rfl ?_); refine Kd.R_make (Kd.int .i64) _ 3 rfl (N := 1) rfl 22 _ _ rfl 4 rfl rfl Try.underlying22 (.int .i64 0) 8 info3 rfl (by decide) (by omega) 0 (ok := fun _ => True) (okp := fun _ => True) rfl (fun _ hk => hk) trivial (by omega) (by omega) (Below.refl _ _) (Nat.le_refl _) ?_; intro vz1 wz2 hoz1 hb hg_ hnew_; clear hg_ hnew_; (first | rw [← Ny102.out] at hoz1 | (simp only [Int.reduceToNat] at hoz1; rw [← Ny102.out] at hoz1)); have HOz1 := Aside0.mk (Kd.R_lower hoz1 (below_size (hX HB.out))); replace BKz1 := Aside0.mk (blk_below (bX BKz1.out) hb); replace HB := Aside0.mk (below_step (hX HB.out) hb); clear hb hoz1; obtain ⟨Aoz1, coz1, eoz1⟩ := Kd.R_slice HOz1.out; subst eoz1; obtain ⟨hczz1, hczz2, hfzz1, hfzz2⟩ := cZ2 BKz1.out))
  refine bodyPost_ret (results_cell_row rfl _ _ gbz1 24 #[.slice Aoz1 y102.length coz1, .int .i64 0] (0, 0) _ rfl (bP BKz1.out) Try.underlying24 rfl (by kernel_rfl)) rfl ?_
  exact ⟨_, rE, (rT (h := by exact Kd.R_mono (Kd.R_far (p := ⟨gbz1, 1, none⟩) (Kd.R_far (p := ⟨gbz1, 0, none⟩) (Kd.R_types HOz1.out BKz1.out (by decide)) (fun _ hk => hk.2) (.slice Aoz1 y102.length coz1)) (fun _ hk => hk.2) (.int .i64 0)) (fun _ hk => trivial))), (hX HB.out)⟩
end Go.Proofs.Yteamagejhbkhnaa.P
